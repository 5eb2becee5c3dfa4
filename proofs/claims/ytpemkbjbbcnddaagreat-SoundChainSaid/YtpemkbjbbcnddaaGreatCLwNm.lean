/- The contract of gnomonlaw11.name. Condition: the number is less than 20. -/
import Derived.Test.YtpemkbjbbcnddaaGreatCLwCm
import Derived.Laws.IdiomStrings
set_option linter.unusedVariables false
set_option linter.unusedSimpArgs false
set_option linter.unusedSectionVars false
namespace Go.Proofs.YtpemkbjbbcnddaaGreat
open Go.RowKit Go.Shelf

theorem conv2 (w : World) (x y : UInt8) : (convert 25 9 (.slice (some ⟨w.heap.size, 0, none⟩) 2 2)).run Tryz.prog (w.alloc (.cells #[.int .u8 (x.toNat : Int), .int .u8 (y.toNat : Int)] 5)) = .ok (.string ⟨#[x, y]⟩) (w.alloc (.cells #[.int .u8 (x.toNat : Int), .int .u8 (y.toNat : Int)] 5)) := by
  have hb := blk_facts (World.alloc_heap_new w (.cells #[.int .u8 (x.toNat : Int), .int .u8 (y.toNat : Int)] 5))
  exact run_convert_bytes_back (P := Tryz.prog) _ 25 9 5 ⟨w.heap.size, 0, none⟩ 2 [x, y] Tryz.underlying25 Tryz.underlying5 Tryz.underlying9 (fun j hj => by
    match j, hj with
    | 0, _ => exact hb.1 0
    | 1, _ => exact hb.1 1)
set_option maxRecDepth 100000 in
set_option maxHeartbeats 4000000 in
theorem name_any (i : Nat) (hi : i < 20) (w : World) : Calls Tryz.prog 15 #[.int .i64 i] w fun e w' => e = .returned (.string ⟨(nmB i).toArray⟩) ∧ w.grownBy w' none := by
  have h20 : i = 0 ∨ i = 1 ∨ i = 2 ∨ i = 3 ∨ i = 4 ∨ i = 5 ∨ i = 6 ∨ i = 7 ∨ i = 8 ∨ i = 9 ∨ i = 10 ∨ i = 11 ∨ i = 12 ∨ i = 13 ∨ i = 14 ∨ i = 15 ∨ i = 16 ∨ i = 17 ∨ i = 18 ∨ i = 19 := by omega
  rcases h20 with rfl | rfl | rfl | rfl | rfl | rfl | rfl | rfl | rfl | rfl | rfl | rfl | rfl | rfl | rfl | rfl | rfl | rfl | rfl | rfl
  · have hcv : (convert 25 9 (.slice (some ⟨w.heap.size, 0, none⟩) 2 2)).run Tryz.prog (w.alloc (.cells #[.int .u8 48, .int .u8 48] 5)) = .ok (.string ⟨#[48, 48]⟩) (w.alloc (.cells #[.int .u8 48, .int .u8 48] 5)) := conv2 w 48 48
    go_enter Tryz.func15, Tryz.ntmps15
    go_wp2
    go_ret
    exact ⟨rfl, World.grownBy_alloc _ _ _⟩
  · have hcv : (convert 25 9 (.slice (some ⟨w.heap.size, 0, none⟩) 2 2)).run Tryz.prog (w.alloc (.cells #[.int .u8 48, .int .u8 49] 5)) = .ok (.string ⟨#[48, 49]⟩) (w.alloc (.cells #[.int .u8 48, .int .u8 49] 5)) := conv2 w 48 49
    go_enter Tryz.func15, Tryz.ntmps15
    go_wp2
    go_ret
    exact ⟨rfl, World.grownBy_alloc _ _ _⟩
  · have hcv : (convert 25 9 (.slice (some ⟨w.heap.size, 0, none⟩) 2 2)).run Tryz.prog (w.alloc (.cells #[.int .u8 48, .int .u8 50] 5)) = .ok (.string ⟨#[48, 50]⟩) (w.alloc (.cells #[.int .u8 48, .int .u8 50] 5)) := conv2 w 48 50
    go_enter Tryz.func15, Tryz.ntmps15
    go_wp2
    go_ret
    exact ⟨rfl, World.grownBy_alloc _ _ _⟩
  · have hcv : (convert 25 9 (.slice (some ⟨w.heap.size, 0, none⟩) 2 2)).run Tryz.prog (w.alloc (.cells #[.int .u8 48, .int .u8 51] 5)) = .ok (.string ⟨#[48, 51]⟩) (w.alloc (.cells #[.int .u8 48, .int .u8 51] 5)) := conv2 w 48 51
    go_enter Tryz.func15, Tryz.ntmps15
    go_wp2
    go_ret
    exact ⟨rfl, World.grownBy_alloc _ _ _⟩
  · have hcv : (convert 25 9 (.slice (some ⟨w.heap.size, 0, none⟩) 2 2)).run Tryz.prog (w.alloc (.cells #[.int .u8 48, .int .u8 52] 5)) = .ok (.string ⟨#[48, 52]⟩) (w.alloc (.cells #[.int .u8 48, .int .u8 52] 5)) := conv2 w 48 52
    go_enter Tryz.func15, Tryz.ntmps15
    go_wp2
    go_ret
    exact ⟨rfl, World.grownBy_alloc _ _ _⟩
  · have hcv : (convert 25 9 (.slice (some ⟨w.heap.size, 0, none⟩) 2 2)).run Tryz.prog (w.alloc (.cells #[.int .u8 48, .int .u8 53] 5)) = .ok (.string ⟨#[48, 53]⟩) (w.alloc (.cells #[.int .u8 48, .int .u8 53] 5)) := conv2 w 48 53
    go_enter Tryz.func15, Tryz.ntmps15
    go_wp2
    go_ret
    exact ⟨rfl, World.grownBy_alloc _ _ _⟩
  · have hcv : (convert 25 9 (.slice (some ⟨w.heap.size, 0, none⟩) 2 2)).run Tryz.prog (w.alloc (.cells #[.int .u8 48, .int .u8 54] 5)) = .ok (.string ⟨#[48, 54]⟩) (w.alloc (.cells #[.int .u8 48, .int .u8 54] 5)) := conv2 w 48 54
    go_enter Tryz.func15, Tryz.ntmps15
    go_wp2
    go_ret
    exact ⟨rfl, World.grownBy_alloc _ _ _⟩
  · have hcv : (convert 25 9 (.slice (some ⟨w.heap.size, 0, none⟩) 2 2)).run Tryz.prog (w.alloc (.cells #[.int .u8 48, .int .u8 55] 5)) = .ok (.string ⟨#[48, 55]⟩) (w.alloc (.cells #[.int .u8 48, .int .u8 55] 5)) := conv2 w 48 55
    go_enter Tryz.func15, Tryz.ntmps15
    go_wp2
    go_ret
    exact ⟨rfl, World.grownBy_alloc _ _ _⟩
  · have hcv : (convert 25 9 (.slice (some ⟨w.heap.size, 0, none⟩) 2 2)).run Tryz.prog (w.alloc (.cells #[.int .u8 48, .int .u8 56] 5)) = .ok (.string ⟨#[48, 56]⟩) (w.alloc (.cells #[.int .u8 48, .int .u8 56] 5)) := conv2 w 48 56
    go_enter Tryz.func15, Tryz.ntmps15
    go_wp2
    go_ret
    exact ⟨rfl, World.grownBy_alloc _ _ _⟩
  · have hcv : (convert 25 9 (.slice (some ⟨w.heap.size, 0, none⟩) 2 2)).run Tryz.prog (w.alloc (.cells #[.int .u8 48, .int .u8 57] 5)) = .ok (.string ⟨#[48, 57]⟩) (w.alloc (.cells #[.int .u8 48, .int .u8 57] 5)) := conv2 w 48 57
    go_enter Tryz.func15, Tryz.ntmps15
    go_wp2
    go_ret
    exact ⟨rfl, World.grownBy_alloc _ _ _⟩
  · have hcv : (convert 25 9 (.slice (some ⟨w.heap.size, 0, none⟩) 2 2)).run Tryz.prog (w.alloc (.cells #[.int .u8 49, .int .u8 48] 5)) = .ok (.string ⟨#[49, 48]⟩) (w.alloc (.cells #[.int .u8 49, .int .u8 48] 5)) := conv2 w 49 48
    go_enter Tryz.func15, Tryz.ntmps15
    go_wp2
    go_ret
    exact ⟨rfl, World.grownBy_alloc _ _ _⟩
  · have hcv : (convert 25 9 (.slice (some ⟨w.heap.size, 0, none⟩) 2 2)).run Tryz.prog (w.alloc (.cells #[.int .u8 49, .int .u8 49] 5)) = .ok (.string ⟨#[49, 49]⟩) (w.alloc (.cells #[.int .u8 49, .int .u8 49] 5)) := conv2 w 49 49
    go_enter Tryz.func15, Tryz.ntmps15
    go_wp2
    go_ret
    exact ⟨rfl, World.grownBy_alloc _ _ _⟩
  · have hcv : (convert 25 9 (.slice (some ⟨w.heap.size, 0, none⟩) 2 2)).run Tryz.prog (w.alloc (.cells #[.int .u8 49, .int .u8 50] 5)) = .ok (.string ⟨#[49, 50]⟩) (w.alloc (.cells #[.int .u8 49, .int .u8 50] 5)) := conv2 w 49 50
    go_enter Tryz.func15, Tryz.ntmps15
    go_wp2
    go_ret
    exact ⟨rfl, World.grownBy_alloc _ _ _⟩
  · have hcv : (convert 25 9 (.slice (some ⟨w.heap.size, 0, none⟩) 2 2)).run Tryz.prog (w.alloc (.cells #[.int .u8 49, .int .u8 51] 5)) = .ok (.string ⟨#[49, 51]⟩) (w.alloc (.cells #[.int .u8 49, .int .u8 51] 5)) := conv2 w 49 51
    go_enter Tryz.func15, Tryz.ntmps15
    go_wp2
    go_ret
    exact ⟨rfl, World.grownBy_alloc _ _ _⟩
  · have hcv : (convert 25 9 (.slice (some ⟨w.heap.size, 0, none⟩) 2 2)).run Tryz.prog (w.alloc (.cells #[.int .u8 49, .int .u8 52] 5)) = .ok (.string ⟨#[49, 52]⟩) (w.alloc (.cells #[.int .u8 49, .int .u8 52] 5)) := conv2 w 49 52
    go_enter Tryz.func15, Tryz.ntmps15
    go_wp2
    go_ret
    exact ⟨rfl, World.grownBy_alloc _ _ _⟩
  · have hcv : (convert 25 9 (.slice (some ⟨w.heap.size, 0, none⟩) 2 2)).run Tryz.prog (w.alloc (.cells #[.int .u8 49, .int .u8 53] 5)) = .ok (.string ⟨#[49, 53]⟩) (w.alloc (.cells #[.int .u8 49, .int .u8 53] 5)) := conv2 w 49 53
    go_enter Tryz.func15, Tryz.ntmps15
    go_wp2
    go_ret
    exact ⟨rfl, World.grownBy_alloc _ _ _⟩
  · have hcv : (convert 25 9 (.slice (some ⟨w.heap.size, 0, none⟩) 2 2)).run Tryz.prog (w.alloc (.cells #[.int .u8 49, .int .u8 54] 5)) = .ok (.string ⟨#[49, 54]⟩) (w.alloc (.cells #[.int .u8 49, .int .u8 54] 5)) := conv2 w 49 54
    go_enter Tryz.func15, Tryz.ntmps15
    go_wp2
    go_ret
    exact ⟨rfl, World.grownBy_alloc _ _ _⟩
  · have hcv : (convert 25 9 (.slice (some ⟨w.heap.size, 0, none⟩) 2 2)).run Tryz.prog (w.alloc (.cells #[.int .u8 49, .int .u8 55] 5)) = .ok (.string ⟨#[49, 55]⟩) (w.alloc (.cells #[.int .u8 49, .int .u8 55] 5)) := conv2 w 49 55
    go_enter Tryz.func15, Tryz.ntmps15
    go_wp2
    go_ret
    exact ⟨rfl, World.grownBy_alloc _ _ _⟩
  · have hcv : (convert 25 9 (.slice (some ⟨w.heap.size, 0, none⟩) 2 2)).run Tryz.prog (w.alloc (.cells #[.int .u8 49, .int .u8 56] 5)) = .ok (.string ⟨#[49, 56]⟩) (w.alloc (.cells #[.int .u8 49, .int .u8 56] 5)) := conv2 w 49 56
    go_enter Tryz.func15, Tryz.ntmps15
    go_wp2
    go_ret
    exact ⟨rfl, World.grownBy_alloc _ _ _⟩
  · have hcv : (convert 25 9 (.slice (some ⟨w.heap.size, 0, none⟩) 2 2)).run Tryz.prog (w.alloc (.cells #[.int .u8 49, .int .u8 57] 5)) = .ok (.string ⟨#[49, 57]⟩) (w.alloc (.cells #[.int .u8 49, .int .u8 57] 5)) := conv2 w 49 57
    go_enter Tryz.func15, Tryz.ntmps15
    go_wp2
    go_ret
    exact ⟨rfl, World.grownBy_alloc _ _ _⟩
end Go.Proofs.YtpemkbjbbcnddaaGreat

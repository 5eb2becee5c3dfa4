/- The contract of names.shapes: a map with a shape for each operation; what a look-up in it finds. No condition. -/
import Derived.Test.YtiheiaaifdjpeaaGreatDNam7
set_option linter.unusedVariables false
set_option linter.unusedSimpArgs false
set_option maxHeartbeats 1000000
set_option maxRecDepth 100000
namespace Go.Proofs.YtiheiaaifdjpeaaGreat
open Go.RowKit
def shpV (s : Shp) : Value := .agg #[.bool s.dst, .bool s.a, .bool s.b, .bool s.n, .bool s.fn, .bool s.args, .bool s.labels]
def Zfy : List (Int × Value) := [1, 2, 3, 4, 5, 8, 6, 7, 9, 10, 11, 12, 13, 14].map fun o => ((o : Nat), shpV (Ye o))
def shapeObj : Obj := Yd encUI idV Zfy
theorem Zci (o : Nat) : Ys Zfy (o : Int) = (Yw o).map shpV := by
 match o with
 | 0 => rfl
 | 1 => rfl
 | 2 => rfl
 | 3 => rfl
 | 4 => rfl
 | 5 => rfl
 | 6 => rfl
 | 7 => rfl
 | 8 => rfl
 | 9 => rfl
 | 10 => rfl
 | 11 => rfl
 | 12 => rfl
 | 13 => rfl
 | 14 => rfl
 | n + 15 =>
  have h : ∀ k : Nat, k ≤ 14 → (((n + 15 : Nat) : Int) == (k : Int)) = false := fun k hk => beq_eq_false_iff_ne.2 (by omega)
  simp only [Zfy, List.map_cons, List.map_nil, Ys];rw [h 1 (by omega), h 2 (by omega), h 3 (by omega), h 4 (by omega), h 5 (by omega), h 8 (by omega), h 6 (by omega), h 7 (by omega), h 9 (by omega), h 10 (by omega), h 11 (by omega), h 12 (by omega), h 13 (by omega), h 14 (by omega)];rfl
theorem Zhw {w : World} {r : Nat} (hb : w.heap[r]? = some shapeObj) (o : Nat) :
  (Instr.lookup 176 (.map (some r)) (.int .u8 o) false).run Tryz.prog w = .ok (shpV (Ye o)) w := by
 have h := Qm (P := Tryz.prog) (Zfd Tryz.underlying35) Tryz.underlying176 hb (o : Int) (z := shpV ⟨false, false, false, false, false, false, false⟩) (by kernel_rfl);rw [Zci] at h;simp only [encUI] at h;rw [h];unfold Ye
 cases Yw o <;> rfl
theorem Zu {w : World} {r : Nat} (hb : w.heap[r]? = some shapeObj) (o : Nat) :
  (Instr.lookup 176 (.map (some r)) (.int .u8 o) true).run Tryz.prog w = .ok (.tuple #[shpV (Ye o), .bool (Yw o).isSome]) w := by
 have h := Vb (P := Tryz.prog) (Zfd Tryz.underlying35) Tryz.underlying176 hb (o : Int) (z := shpV ⟨false, false, false, false, false, false, false⟩) (by kernel_rfl);rw [Zci] at h;simp only [encUI] at h;rw [h];unfold Ye
 cases Yw o <;> rfl
theorem Zno (w : World) :
  Calls Tryz.prog 112 #[] w fun e w' => e = .returned (.map (some w.heap.size)) ∧ w' = w.alloc shapeObj := by
 have hmm : ∀ w : World, (Instr.makeMap 176 none).run Tryz.prog w = .ok (.map (some w.heap.size)) (w.alloc (Yd encUI idV [])) := @run_makeMap Tryz.prog 176;go_enter Tryz.func112, Tryz.ntmps112;go_wp2_with (refine Vh rfl _ _ _ _ rfl (Zfd Tryz.underlying35) Tryz.underlying176 _ _ rfl rfl _ _ rfl rfl ?_);go_ret;exact ⟨rfl, rfl⟩
end Go.Proofs.YtiheiaaifdjpeaaGreat

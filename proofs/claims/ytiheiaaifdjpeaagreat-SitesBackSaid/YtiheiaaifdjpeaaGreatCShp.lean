/- The contract of names.shapes: a map with a shape for each operation; what a look-up in it finds. No condition. -/
import Derived.Test.YtiheiaaifdjpeaaGreatCNam7
set_option linter.unusedVariables false
set_option linter.unusedSimpArgs false
set_option linter.unusedSectionVars false
set_option maxHeartbeats 1000000
set_option maxRecDepth 100000
namespace Go.Proofs.YtiheiaaifdjpeaaGreat
open Go.RowKit
def shpV (s : Shp) : Value := .agg #[.bool s.dst, .bool s.a, .bool s.b, .bool s.n, .bool s.fn, .bool s.args, .bool s.labels]
def shapeTab : List (Int × Value) := [1, 2, 3, 4, 5, 8, 6, 7, 9, 10, 11, 12, 13, 14].map fun o => ((o : Nat), shpV (shp0 o))
def shapeObj : Obj := mobj encUI idV shapeTab
theorem aget_shapes (o : Nat) : aget shapeTab (o : Int) = (shpOf o).map shpV := by
 match o with
 | 0 => rfl
 | 1 => rfl
 | 2 => rfl
 | 3 => rfl
 | 4 => rfl
 | 5 => rfl
 | 6 => rfl
 | 7 => rfl
 | 8 => rfl
 | 9 => rfl
 | 10 => rfl
 | 11 => rfl
 | 12 => rfl
 | 13 => rfl
 | 14 => rfl
 | n + 15 =>
  have h : ∀ k : Nat, k ≤ 14 → (((n + 15 : Nat) : Int) == (k : Int)) = false := fun k hk => beq_eq_false_iff_ne.2 (by omega)
  simp only [shapeTab, List.map_cons, List.map_nil, aget]
  rw [h 1 (by omega), h 2 (by omega), h 3 (by omega), h 4 (by omega), h 5 (by omega), h 8 (by omega), h 6 (by omega), h 7 (by omega), h 9 (by omega), h 10 (by omega), h 11 (by omega), h 12 (by omega), h 13 (by omega), h 14 (by omega)]
  rfl
theorem run_shape {w : World} {r : Nat} (hb : w.heap[r]? = some shapeObj) (o : Nat) :
  (Instr.lookup 176 (.map (some r)) (.int .u8 o) false).run Tryz.prog w = .ok (shpV (shp0 o)) w := by
 have h := run_mapGet (P := Tryz.prog) (keyUI Tryz.underlying35) Tryz.underlying176 hb (o : Int) (z := shpV ⟨false, false, false, false, false, false, false⟩) (by kernel_rfl)
 rw [aget_shapes] at h
 simp only [encUI] at h
 rw [h]
 unfold shp0
 cases shpOf o <;> rfl
theorem run_shapeOk {w : World} {r : Nat} (hb : w.heap[r]? = some shapeObj) (o : Nat) :
  (Instr.lookup 176 (.map (some r)) (.int .u8 o) true).run Tryz.prog w = .ok (.tuple #[shpV (shp0 o), .bool (shpOf o).isSome]) w := by
 have h := run_mapGetOk (P := Tryz.prog) (keyUI Tryz.underlying35) Tryz.underlying176 hb (o : Int) (z := shpV ⟨false, false, false, false, false, false, false⟩) (by kernel_rfl)
 rw [aget_shapes] at h
 simp only [encUI] at h
 rw [h]
 unfold shp0
 cases shpOf o <;> rfl
theorem shapes_any (w : World) :
  Calls Tryz.prog 112 #[] w fun e w' => e = .returned (.map (some w.heap.size)) ∧ w' = w.alloc shapeObj := by
 have hmm : ∀ w : World, (Instr.makeMap 176 none).run Tryz.prog w = .ok (.map (some w.heap.size)) (w.alloc (mobj encUI idV [])) := @run_makeMap Tryz.prog 176
 go_enter Tryz.func112, Tryz.ntmps112
 go_wp2_with (refine wpList_mapLit rfl _ _ _ _ rfl (keyUI Tryz.underlying35) Tryz.underlying176 _ _ rfl rfl _ _ rfl rfl ?_)
 go_ret
 exact ⟨rfl, rfl⟩
end Go.Proofs.YtiheiaaifdjpeaaGreat

/- Arguments that are numbers and bytes, read as data. No condition. -/
import Derived.Test.YtpemkbjbbcnddaaGreatCOpn
import Derived.Test.YtpemkbjbbcnddaaGreatCLwX
import Derived.WalkKit
import Derived.ProofKit
import Derived.OpenShut
import Derived.ShutString
import Derived.ChangeOld
import Derived.Below
import Derived.SizedLaws
set_option linter.unusedVariables false
set_option linter.unusedSimpArgs false
set_option linter.unusedSectionVars false
namespace Go.Proofs.YtpemkbjbbcnddaaGreat
open Go.ChangeShapes Go.WideShapes Go.ChangeAt Go.RowKit
variable {H : Type} {enc : TypeId × Value → H} {w : World}

set_option maxRecDepth 100000 in
theorem arg_int {t : TypeId} {n : Nat} {v : Value} {x : DataW H × List MemPlace} {base : Nat} (ht : Tryz.prog.underlying t = some (.int .i64)) (hv : Value.okWide Tryz.prog w .any base t v) (h : trodW enc w n t v.cells.toList = some x) :
    ∃ z : Int, v = .int .i64 z ∧ -9223372036854775808 ≤ z ∧ z ≤ 9223372036854775807 := by
  obtain ⟨z, rfl⟩ := okWide_int ht hv
  obtain ⟨z', h1, h2⟩ := open_int ht h
  have e : z = z' := by simpa [Value.cells] using h1
  subst e
  obtain ⟨o1, o2⟩ := Go.bounds_i64 h2
  exact ⟨z, rfl, o1, o2⟩
set_option maxRecDepth 100000 in
theorem arg_u8 {t : TypeId} {n : Nat} {v : Value} {x : DataW H × List MemPlace} {base : Nat} (ht : Tryz.prog.underlying t = some (.int .u8)) (hv : Value.okWide Tryz.prog w .any base t v) (h : trodW enc w n t v.cells.toList = some x) :
    ∃ z : Nat, v = .int .u8 z ∧ z < 256 := by
  obtain ⟨z, rfl⟩ := okWide_int ht hv
  obtain ⟨z', h1, h2⟩ := open_int ht h
  have e : z = z' := by simpa [Value.cells] using h1
  subst e
  obtain ⟨o1, o2⟩ := Go.bounds_u8 h2
  exact ⟨z.toNat, by rw [Int.toNat_of_nonneg o1], by omega⟩
set_option maxRecDepth 100000 in
theorem open_u8s {n : Nat} {cs : List Value} {x : DataW H × List MemPlace} (h : trodW enc w n 25 cs = some x) (hw : WOk 25 x.1) : ∃ v l, cs = [v] ∧ SlAt u8R 1 w w.heap.size v l ∧ l.length * 1 ≤ 140737488351232 :=
  open_sl u8R Tryz.underlying25 (by kernel_rfl) (by decide) (by kernel_rfl) h hw fun m cs' y b off hb hc h' _ => by
    obtain ⟨z, rfl, hz⟩ := open_int Tryz.underlying5 h'
    obtain ⟨o1, o2⟩ := Go.bounds_u8 hz
    exact ⟨z.toNat, by rw [Int.toNat_of_nonneg o1]; simp [hc 0 (by decide)], by omega⟩
set_option maxRecDepth 100000 in
theorem arg_u8s {n : Nat} {v : Value} {x : DataW H × List MemPlace} {base : Nat} (hv : Value.okWide Tryz.prog w .any base 25 v) (h : trodW enc w n 25 v.cells.toList = some x) (hw : WOk 25 x.1) : ∃ c, SlAt u8R 1 w w.heap.size v c := by
  obtain ⟨a, len, cap, rfl⟩ := okWide_slice Tryz.underlying25 hv
  obtain ⟨v', l, h1, h2, _⟩ := open_u8s h hw
  have e : Value.slice a len cap = v' := by simpa [Value.cells] using h1
  subst e
  exact ⟨l, h2⟩
end Go.Proofs.YtpemkbjbbcnddaaGreat

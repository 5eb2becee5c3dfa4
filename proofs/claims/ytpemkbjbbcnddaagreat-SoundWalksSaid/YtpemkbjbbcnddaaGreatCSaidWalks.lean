/- The statement SoundWalks: whatever program, place and choices come in, gnomonlaw11.SoundWalks answers true and what came in reads as before. No condition. -/
import Derived.Test.YtpemkbjbbcnddaaGreatRows
import Derived.Test.YtpemkbjbbcnddaaGreatCLwW
import Derived.Test.YtpemkbjbbcnddaaGreatCOpnA
import Derived.WalkKit
import Derived.ProofKit
import Derived.OpenShut
import Derived.ShutString
import Derived.ChangeOld
import Derived.Below
import Derived.SizedLaws
set_option linter.unusedVariables false
set_option linter.unusedSimpArgs false
set_option linter.unusedSectionVars false
namespace Go.Proofs.YtpemkbjbbcnddaaGreat
open Go.ChangeShapes Go.WideShapes Go.ChangeAt Go.RowKit
set_option linter.unusedVariables false

theorem walksOwn : ownKnob Tryz.prog.godebug = none := by kernel_rfl
theorem walksLaid : laidOutB Tryz.prog = true := by kernel_rfl

set_option maxRecDepth 100000 in
theorem walksLifted (os : Os) (started : os.Started) (H : Type) (enc : TypeId × Value → H) :
    ReturnsInHanded {} Tryz.checked os 3 .any (Rows.soundWalksSpec.pre6 enc Tryz.prog Tryz.f3 Rows.soundWalksRow.domain false) (Rows.soundWalksSpec.post enc Tryz.prog Tryz.f3 false true false false) := by
  refine returnsInHanded_of_change_sized (C := Tryz.checked) walksOwn started (by kernel_rfl) Tryz.func3
    (ChangeSpec.witness6 (enc := enc) (C := Tryz.checked) false ⟨#[], #[.agg #[.slice none 0 0], .int .i64 0, .slice none 0 0], []⟩ 8 (by kernel_rfl) (by kernel_rfl) (by kernel_rfl) (by kernel_rfl)) ?_
  intro W base args ds gs before hval0 hW hcnd hsz0 _
  have hval : ∀ (j : Nat) t v, Tryz.f3.params[j]? = some t → args[j]? = some v → Value.okWide Tryz.prog W .any base t v := hval0
  have hsz : (DataW.weightsEach Tryz.prog (Tryz.f3.params.toList ++ Rows.soundWalksSpec.plain.varTypes Tryz.prog) (ds ++ gs)).all (· ≤ reachBytes) = true := hsz0
  have hW' := hW
  obtain ⟨p, q, hA0, hV, rfl, hfz, hnd⟩ := hW
  have hA : DataW.TrodAll enc Tryz.prog W 0 (fun _ => true) true Tryz.f3.params.toList args.toList ds p := hA0
  rw [Tryz.params3] at hA hval hsz
  obtain ⟨v0, vs0, d0, ds0, p0, q0, hargs, rfl, rfl, h0, r0⟩ := trodAll_cons hA
  obtain ⟨v1, vs1, d1, ds1, p1, q1, rfl, rfl, rfl, h1, r1⟩ := trodAll_cons r0
  obtain ⟨v2, vs2, d2, ds2, p2, q2, rfl, rfl, rfl, h2, r2⟩ := trodAll_cons r1
  obtain ⟨rfl, rfl, rfl⟩ := trodAll_nil r2
  obtain rfl : args = #[v0, v1, v2] := by cases args; simp_all
  obtain ⟨rfl, rfl⟩ := trodVars_none hV
  obtain ⟨cs, hv, _⟩ := okWide_struct Tryz.underlying24 (hval 0 24 v0 rfl rfl)
  have k0 := h0
  have k1 := h1
  have k2 := h2
  have lt0 : ∀ x ∈ p0, x.block < W.heap.size := by obtain ⟨m, hm⟩ := k0; exact DataW.trod_lt m _ _ _ hm
  have lt1 : ∀ x ∈ p1, x.block < W.heap.size := by obtain ⟨m, hm⟩ := k1; exact DataW.trod_lt m _ _ _ hm
  have lt2 : ∀ x ∈ p2, x.block < W.heap.size := by obtain ⟨m, hm⟩ := k2; exact DataW.trod_lt m _ _ _ hm
  have hw : WOk 24 d0 := by
    intro n hn
    have h1 := List.all_eq_true.1 hsz n (weightsEach_mem (i := 0) (t := 24) (d := d0) rfl rfl hn)
    exact of_decide_eq_true h1
  have hw2 : WOk 25 d2 := by
    intro n hn
    have h1 := List.all_eq_true.1 hsz n (weightsEach_mem (i := 2) (t := 25) (d := d2) rfl rfl hn)
    exact of_decide_eq_true h1
  obtain ⟨vp, pr, rfl, hP⟩ : ∃ vp pr, v0 = .agg #[vp] ∧ ProgAt W W.heap.size vp pr := by
    obtain ⟨fuel, hf⟩ := h0
    exact open_prog hv hf hw
  obtain ⟨z, rfl, hz1, hz2⟩ : ∃ z : Int, v1 = .int .i64 z ∧ -9223372036854775808 ≤ z ∧ z ≤ 9223372036854775807 := by
    obtain ⟨fuel, hf⟩ := h1
    exact arg_int Tryz.underlying3 (hval 1 3 v1 rfl rfl) hf
  obtain ⟨c, hC⟩ : ∃ c, SlAt u8R 1 W W.heap.size v2 c := by
    obtain ⟨fuel, hf⟩ := h2
    exact arg_u8s (hval 2 25 v2 rfl rfl) hf hw2
  clear hA0 hval0
  refine (walks_any pr vp v2 z c W.heap.size W (Nat.le_refl _) hP hz1 hz2 hC).mono fun e W' ⟨he, hg⟩ => ?_
  have bel := grown_none hg
  subst he
  exact ⟨_, rfl, _, _, _, [], _, [], hW', trodAll_mk1 (shut_bool Tryz.underlying4 _), (trodAll_cons_mk (Below.trod walksLaid (by kernel_rfl) (of_decide_eq_true (by kernel_rfl)) k0 bel lt0) (trodAll_cons_mk (Below.trod walksLaid (by kernel_rfl) (of_decide_eq_true (by kernel_rfl)) k1 bel lt1) (trodAll_cons_mk (Below.trod walksLaid (by kernel_rfl) (of_decide_eq_true (by kernel_rfl)) k2 bel lt2) trodAll_mk0))), rfl, bel.frame _, fun h => by cases h⟩

theorem walksOver : Rows.soundWalksRow.holds Tryz.pinned (OpenSpec.ofChange Rows.soundWalksSpec) :=
  OpenClaim.holds_of_wide 3 Tryz.f3 rfl rfl rfl rfl rfl rfl rfl ⟨rfl, rfl, rfl, rfl, rfl⟩ rfl rfl rfl rfl rfl (by kernel_rfl) Tryz.func3 (by kernel_rfl)
    (of_decide_eq_true (by kernel_rfl)) (by unfold Func.isWrapper; first | (rw [if_pos (by decide +kernel)]; kernel_rfl) | (rw [if_neg (by decide +kernel)]; exact ⟨rfl, rfl⟩))
    (fun os started H enc _ => walksLifted os started H enc)

/-- The statement. -/
theorem soundWalks_holds : Rows.SoundWalksSaid := walksOver
#print axioms soundWalks_holds
end Go.Proofs.YtpemkbjbbcnddaaGreat

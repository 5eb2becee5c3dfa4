/- The statement SoundChain: whatever five bytes come in, gnomonlaw11.SoundChain answers true and what came in reads as before. No condition. -/
import Derived.Test.YtpemkbjbbcnddaaGreatRows
import Derived.Test.YtpemkbjbbcnddaaGreatCLwCw
import Derived.Test.YtpemkbjbbcnddaaGreatCOpnA
import Derived.WalkKit
import Derived.ProofKit
import Derived.OpenShut
import Derived.ShutString
import Derived.ChangeOld
import Derived.Below
import Derived.SizedLaws
set_option linter.unusedVariables false
set_option linter.unusedSimpArgs false
set_option linter.unusedSectionVars false
namespace Go.Proofs.YtpemkbjbbcnddaaGreat
open Go.ChangeShapes Go.WideShapes Go.ChangeAt Go.RowKit
set_option linter.unusedVariables false

theorem chainOwn : ownKnob Tryz.prog.godebug = none := by kernel_rfl
theorem chainLaid : laidOutB Tryz.prog = true := by kernel_rfl

set_option maxRecDepth 100000 in
theorem chainLifted (os : Os) (started : os.Started) (H : Type) (enc : TypeId × Value → H) :
    ReturnsInHanded {} Tryz.checked os 5 .any (Rows.soundChainSpec.pre6 enc Tryz.prog Tryz.f5 Rows.soundChainRow.domain false) (Rows.soundChainSpec.post enc Tryz.prog Tryz.f5 false true false false) := by
  refine returnsInHanded_of_change_sized (C := Tryz.checked) chainOwn started (by kernel_rfl) Tryz.func5
    (ChangeSpec.witness6 (enc := enc) (C := Tryz.checked) false ⟨#[], #[.int .u8 0, .int .u8 0, .int .u8 0, .int .u8 0, .int .u8 0], []⟩ 8 (by kernel_rfl) (by kernel_rfl) (by kernel_rfl) (by kernel_rfl)) ?_
  intro W base args ds gs before hval0 hW hcnd hsz0 _
  have hval : ∀ (j : Nat) t v, Tryz.f5.params[j]? = some t → args[j]? = some v → Value.okWide Tryz.prog W .any base t v := hval0
  have hsz : (DataW.weightsEach Tryz.prog (Tryz.f5.params.toList ++ Rows.soundChainSpec.plain.varTypes Tryz.prog) (ds ++ gs)).all (· ≤ reachBytes) = true := hsz0
  have hW' := hW
  obtain ⟨p, q, hA0, hV, rfl, hfz, hnd⟩ := hW
  have hA : DataW.TrodAll enc Tryz.prog W 0 (fun _ => true) true Tryz.f5.params.toList args.toList ds p := hA0
  rw [Tryz.params5] at hA hval hsz
  obtain ⟨v0, vs0, d0, ds0, p0, q0, hargs, rfl, rfl, h0, r0⟩ := trodAll_cons hA
  obtain ⟨v1, vs1, d1, ds1, p1, q1, rfl, rfl, rfl, h1, r1⟩ := trodAll_cons r0
  obtain ⟨v2, vs2, d2, ds2, p2, q2, rfl, rfl, rfl, h2, r2⟩ := trodAll_cons r1
  obtain ⟨v3, vs3, d3, ds3, p3, q3, rfl, rfl, rfl, h3, r3⟩ := trodAll_cons r2
  obtain ⟨v4, vs4, d4, ds4, p4, q4, rfl, rfl, rfl, h4, r4⟩ := trodAll_cons r3
  obtain ⟨rfl, rfl, rfl⟩ := trodAll_nil r4
  obtain rfl : args = #[v0, v1, v2, v3, v4] := by cases args; simp_all
  obtain ⟨rfl, rfl⟩ := trodVars_none hV
  have k0 := h0
  have lt0 : ∀ x ∈ p0, x.block < W.heap.size := by obtain ⟨m, hm⟩ := k0; exact DataW.trod_lt m _ _ _ hm
  have k1 := h1
  have lt1 : ∀ x ∈ p1, x.block < W.heap.size := by obtain ⟨m, hm⟩ := k1; exact DataW.trod_lt m _ _ _ hm
  have k2 := h2
  have lt2 : ∀ x ∈ p2, x.block < W.heap.size := by obtain ⟨m, hm⟩ := k2; exact DataW.trod_lt m _ _ _ hm
  have k3 := h3
  have lt3 : ∀ x ∈ p3, x.block < W.heap.size := by obtain ⟨m, hm⟩ := k3; exact DataW.trod_lt m _ _ _ hm
  have k4 := h4
  have lt4 : ∀ x ∈ p4, x.block < W.heap.size := by obtain ⟨m, hm⟩ := k4; exact DataW.trod_lt m _ _ _ hm
  obtain ⟨z0, rfl, hz0⟩ : ∃ z : Nat, v0 = .int .u8 z ∧ z < 256 := by
    obtain ⟨fuel, hf⟩ := h0
    exact arg_u8 Tryz.underlying5 (hval 0 5 v0 rfl rfl) hf
  obtain ⟨z1, rfl, hz1⟩ : ∃ z : Nat, v1 = .int .u8 z ∧ z < 256 := by
    obtain ⟨fuel, hf⟩ := h1
    exact arg_u8 Tryz.underlying5 (hval 1 5 v1 rfl rfl) hf
  obtain ⟨z2, rfl, hz2⟩ : ∃ z : Nat, v2 = .int .u8 z ∧ z < 256 := by
    obtain ⟨fuel, hf⟩ := h2
    exact arg_u8 Tryz.underlying5 (hval 2 5 v2 rfl rfl) hf
  obtain ⟨z3, rfl, hz3⟩ : ∃ z : Nat, v3 = .int .u8 z ∧ z < 256 := by
    obtain ⟨fuel, hf⟩ := h3
    exact arg_u8 Tryz.underlying5 (hval 3 5 v3 rfl rfl) hf
  obtain ⟨z4, rfl, hz4⟩ : ∃ z : Nat, v4 = .int .u8 z ∧ z < 256 := by
    obtain ⟨fuel, hf⟩ := h4
    exact arg_u8 Tryz.underlying5 (hval 4 5 v4 rfl rfl) hf
  clear hA0 hval0
  refine (chain_any z0 z1 z2 z3 z4 W hz0 hz1 hz2 hz3 hz4).mono fun e W' ⟨he, hg⟩ => ?_
  have bel := grown_none hg
  subst he
  exact ⟨_, rfl, _, _, _, [], _, [], hW', trodAll_mk1 (shut_bool Tryz.underlying4 _), (trodAll_cons_mk (Below.trod chainLaid (by kernel_rfl) (of_decide_eq_true (by kernel_rfl)) k0 bel lt0) (trodAll_cons_mk (Below.trod chainLaid (by kernel_rfl) (of_decide_eq_true (by kernel_rfl)) k1 bel lt1) (trodAll_cons_mk (Below.trod chainLaid (by kernel_rfl) (of_decide_eq_true (by kernel_rfl)) k2 bel lt2) (trodAll_cons_mk (Below.trod chainLaid (by kernel_rfl) (of_decide_eq_true (by kernel_rfl)) k3 bel lt3) (trodAll_cons_mk (Below.trod chainLaid (by kernel_rfl) (of_decide_eq_true (by kernel_rfl)) k4 bel lt4) trodAll_mk0))))), rfl, bel.frame _, fun h => by cases h⟩

theorem chainOver : Rows.soundChainRow.holds Tryz.pinned (OpenSpec.ofChange Rows.soundChainSpec) :=
  OpenClaim.holds_of_wide 5 Tryz.f5 rfl rfl rfl rfl rfl rfl rfl ⟨rfl, rfl, rfl, rfl, rfl⟩ rfl rfl rfl rfl rfl (by kernel_rfl) Tryz.func5 (by kernel_rfl)
    (of_decide_eq_true (by kernel_rfl)) (by unfold Func.isWrapper; first | (rw [if_pos (by decide +kernel)]; kernel_rfl) | (rw [if_neg (by decide +kernel)]; exact ⟨rfl, rfl⟩))
    (fun os started H enc _ => chainLifted os started H enc)

/-- The statement. -/
theorem soundChain_holds : Rows.SoundChainSaid := chainOver
#print axioms soundChain_holds
end Go.Proofs.YtpemkbjbbcnddaaGreat

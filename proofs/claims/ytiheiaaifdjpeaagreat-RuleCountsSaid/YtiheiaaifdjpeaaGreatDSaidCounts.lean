/- The statement RuleCounts: whatever program comes in, gnomonlaw16.RuleCounts answers true and what came in reads as before. No condition. -/
import Derived.Test.YtiheiaaifdjpeaaGreatRows
import Derived.Test.YtiheiaaifdjpeaaGreatDLwRc
import Derived.Test.YtiheiaaifdjpeaaGreatDOpn
import Derived.ProofKit
import Derived.ShutString
import Derived.ChangeOld
import Derived.Below
import Derived.SizedLaws
set_option linter.unusedVariables false
set_option linter.unusedSimpArgs false
namespace Go.Proofs.YtiheiaaifdjpeaaGreat
open Go.ChangeShapes Go.WideShapes Go.ChangeAt Go.RowKit
set_option linter.unusedVariables false
set_option maxRecDepth 100000
theorem rcntOwn : ownKnob Tryz.prog.godebug = none := by kernel_rfl
theorem Zuh : laidOutB Tryz.prog = true := by kernel_rfl
theorem Zub (os : Os) (started : os.Started) (H : Type) (enc : TypeId × Value → H) :
  ReturnsInHanded {} Tryz.checked os 9 .any (Rows.ruleCountsSpec.pre6 enc Tryz.prog Tryz.f9 Rows.ruleCountsRow.domain false) (Rows.ruleCountsSpec.post enc Tryz.prog Tryz.f9 false true false false) := by
 refine returnsInHanded_of_change_sized (C := Tryz.checked) rcntOwn started (by kernel_rfl) Tryz.func9
  (ChangeSpec.witness6 (enc := enc) (C := Tryz.checked) false ⟨#[], #[.agg #[.slice none 0 0]], []⟩ 8 (by kernel_rfl) (by kernel_rfl) (by kernel_rfl) (by kernel_rfl)) ?_
 intro W base args ds gs before hval0 hW hcnd hsz0 _;have hval : ∀ (j : Nat) t v, Tryz.f9.params[j]? = some t → args[j]? = some v → Value.okWide Tryz.prog W .any base t v := hval0;have hsz : (DataW.weightsEach Tryz.prog (Tryz.f9.params.toList ++ Rows.ruleCountsSpec.plain.varTypes Tryz.prog) (ds ++ gs)).all (· ≤ reachBytes) = true := hsz0;have hW' := hW;obtain ⟨p, q, hA0, hV, rfl, hfz, hnd⟩ := hW;have hA : DataW.TrodAll enc Tryz.prog W 0 (fun _ => true) true Tryz.f9.params.toList args.toList ds p := hA0;rw [Tryz.params9] at hA hval hsz;obtain ⟨v0, vs0, d0, ds0, p0, q0, hargs, rfl, rfl, h0, r0⟩ := trodAll_cons hA;obtain ⟨rfl, rfl, rfl⟩ := trodAll_nil r0;obtain rfl : args = #[v0] := by cases args; simp_all
 obtain ⟨rfl, rfl⟩ := trodVars_none hV;obtain ⟨cs, hv, _⟩ := okWide_struct Tryz.underlying24 (hval 0 24 v0 rfl rfl);have k0 := h0;have lt0 : ∀ x ∈ p0, x.block < W.heap.size := by obtain ⟨m, hm⟩ := k0; exact DataW.trod_lt m _ _ _ hm
 have hw : WOk 24 d0 := by
  intro n hn;have h1 := List.all_eq_true.1 hsz n (Ut (i := 0) (t := 24) (d := d0) rfl rfl hn);exact of_decide_eq_true h1
 obtain ⟨vp, pr, rfl, hP⟩ : ∃ vp pr, v0 = .agg #[vp] ∧ ProgAt W W.heap.size vp pr := by
  obtain ⟨fuel, hf⟩ := h0;exact Zqk hv hf hw
 clear hA0 hval0;refine (Ztz pr vp W W.heap.size (Nat.le_refl _) hP).mono fun e W' ⟨he, hg⟩ => ?_
 have bel := Zk hg;subst he;exact ⟨_, rfl, _, _, _, [], _, [], hW', trodAll_mk1 (shut_bool Tryz.underlying4 _), (trodAll_cons_mk (Below.trod Zuh (by kernel_rfl) (of_decide_eq_true (by kernel_rfl)) k0 bel lt0) trodAll_mk0), rfl, bel.frame _, fun h => by cases h⟩
theorem Zui : Rows.ruleCountsRow.holds Tryz.pinned (OpenSpec.ofChange Rows.ruleCountsSpec) :=
 OpenClaim.holds_of_wide 9 Tryz.f9 rfl rfl rfl rfl rfl rfl rfl ⟨rfl, rfl, rfl, rfl, rfl⟩ rfl rfl rfl rfl rfl (by kernel_rfl) Tryz.func9 (by kernel_rfl)
  (of_decide_eq_true (by kernel_rfl)) (by unfold Func.isWrapper; first | (rw [if_pos (by decide +kernel)]; kernel_rfl) | (rw [if_neg (by decide +kernel)]; exact ⟨rfl, rfl⟩))
  (fun os started H enc _ => Zub os started H enc)
theorem ruleCounts_holds : Rows.RuleCountsSaid := Zui
#print axioms ruleCounts_holds
end Go.Proofs.YtiheiaaifdjpeaaGreat

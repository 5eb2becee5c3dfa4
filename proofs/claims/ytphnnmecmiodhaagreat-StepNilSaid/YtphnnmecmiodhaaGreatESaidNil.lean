/- The statement StepNil: whatever comes in, gnomonlaw14.StepNil answers true and what came in reads as before. No condition. -/
import Derived.Test.YtphnnmecmiodhaaGreatRows
import Derived.Test.YtphnnmecmiodhaaGreatELwNl
import Derived.Test.YtphnnmecmiodhaaGreatEOpn
set_option linter.unusedVariables false
set_option linter.unusedSimpArgs false
namespace Go.Proofs.YtphnnmecmiodhaaGreat
open Go.ChangeShapes Go.WideShapes Go.ChangeAt Go.RowKit
set_option maxRecDepth 100000
theorem nilOwn:ownKnob Tryz.prog.godebug=none:=by kernel_rfl
theorem Zqm:laidOutB Tryz.prog=true:=by kernel_rfl
theorem Zst (os:Os) (started:os.Started) (H:Type) (enc:TypeId×Value→H):
  ReturnsInHanded {} Tryz.checked os 7 .any (Rows.stepNilSpec.pre6 enc Tryz.prog Tryz.f7 Rows.stepNilRow.domain false) (Rows.stepNilSpec.post enc Tryz.prog Tryz.f7 false true false false):=by
 refine returnsInHanded_of_change_sized (C:=Tryz.checked) nilOwn started (by kernel_rfl) Tryz.func7
  (ChangeSpec.witness6 (enc:=enc) (C:=Tryz.checked) false ⟨#[],#[.int .i64 0,.int .i64 0],[]⟩ 8 (by kernel_rfl) (by kernel_rfl) (by kernel_rfl) (by kernel_rfl)) ?_
 intro W base args ds gs before hval0 hW hcnd hsz0 _;have hval:∀ (j:Nat) t v,Tryz.f7.params[j]?=some t→args[j]?=some v→Value.okWide Tryz.prog W .any base t v:=hval0;have hsz:(DataW.weightsEach Tryz.prog (Tryz.f7.params.toList++Rows.stepNilSpec.plain.varTypes Tryz.prog) (ds++gs)).all (·≤reachBytes)=true:=hsz0;have hW':=hW;obtain⟨p,q,hA0,hV,rfl,hfz,hnd⟩:=hW;have hA:DataW.TrodAll enc Tryz.prog W 0 (fun _=>true) true Tryz.f7.params.toList args.toList ds p:=hA0;rw[Tryz.params7] at hA hval hsz;obtain⟨v0,vs0,d0,ds0,p0,q0,hargs,rfl,rfl,h0,r0⟩:=trodAll_cons hA;obtain⟨v1,vs1,d1,ds1,p1,q1,rfl,rfl,rfl,h1,r1⟩:=trodAll_cons r0;obtain⟨rfl,rfl,rfl⟩:=trodAll_nil r1;obtain rfl:args= #[v0,v1]:=by cases args;simp_all
 obtain⟨rfl,rfl⟩:=trodVars_none hV;have k0:=h0;have lt0:∀ x∈p0,x.block<W.heap.size:=by obtain⟨m,hm⟩:=k0;exact DataW.trod_lt m _ _ _ hm
 have k1:=h1;have lt1:∀ x∈p1,x.block<W.heap.size:=by obtain⟨m,hm⟩:=k1;exact DataW.trod_lt m _ _ _ hm
 obtain⟨z0,rfl,hz0a,hz0b⟩:∃ z:Int,v0=.int .i64 z∧-9223372036854775808≤z∧z≤9223372036854775807:=by
  obtain⟨fuel,hf⟩:=h0;exact Zpv Tryz.underlying3 (hval 0 3 v0 rfl rfl) hf
 obtain⟨z1,rfl,hz1a,hz1b⟩:∃ z:Int,v1=.int .i64 z∧-9223372036854775808≤z∧z≤9223372036854775807:=by
  obtain⟨fuel,hf⟩:=h1;exact Zpv Tryz.underlying3 (hval 1 3 v1 rfl rfl) hf
 clear hA0 hval0;refine (nil_any z0 z1 W).mono fun e W' ⟨he,hg⟩=>?_
 have bel:=Zk hg;subst he;exact⟨_,rfl,_,_,_,[],_,[],hW',trodAll_mk1 (shut_bool Tryz.underlying4 _),(trodAll_cons_mk (Below.trod Zqm (by kernel_rfl) (of_decide_eq_true (by kernel_rfl)) k0 bel lt0) (trodAll_cons_mk (Below.trod Zqm (by kernel_rfl) (of_decide_eq_true (by kernel_rfl)) k1 bel lt1) trodAll_mk0)),rfl,bel.frame _,fun h=>by cases h⟩
theorem nilOver:Rows.stepNilRow.holds Tryz.pinned (OpenSpec.ofChange Rows.stepNilSpec):=
 OpenClaim.holds_of_wide 7 Tryz.f7 rfl rfl rfl rfl rfl rfl rfl ⟨rfl,rfl,rfl,rfl,rfl⟩ rfl rfl rfl rfl rfl (by kernel_rfl) Tryz.func7 (by kernel_rfl)
  (of_decide_eq_true (by kernel_rfl)) (by unfold Func.isWrapper;first|(rw[if_pos (by decide+kernel)];kernel_rfl)|(rw[if_neg (by decide+kernel)];exact⟨rfl,rfl⟩))
  (fun os started H enc _=>Zst os started H enc)
theorem stepNil_holds:Rows.StepNilSaid:=nilOver
#print axioms stepNil_holds
end Go.Proofs.YtphnnmecmiodhaaGreat

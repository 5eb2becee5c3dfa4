/- The statement StepOne: whatever comes in, gnomonlaw14.StepOne answers true and what came in reads as before. No condition. -/
import Derived.Test.YtphnnmecmiodhaaGreatRows
import Derived.Test.YtphnnmecmiodhaaGreatELwOn
import Derived.Test.YtphnnmecmiodhaaGreatEOpn
set_option linter.unusedVariables false
set_option linter.unusedSimpArgs false
namespace Go.Proofs.YtphnnmecmiodhaaGreat
open Go.ChangeShapes Go.WideShapes Go.ChangeAt Go.RowKit
set_option maxRecDepth 100000
theorem oneOwn:ownKnob Tryz.prog.godebug=none:=by kernel_rfl
theorem Zxs:laidOutB Tryz.prog=true:=by kernel_rfl
theorem Zyn (os:Os) (started:os.Started) (H:Type) (enc:TypeId×Value→H):
  ReturnsInHanded {} Tryz.checked os 8 .any (Rows.stepOneSpec.pre6 enc Tryz.prog Tryz.f8 Rows.stepOneRow.domain false) (Rows.stepOneSpec.post enc Tryz.prog Tryz.f8 false true false false):=by
 refine returnsInHanded_of_change_sized (C:=Tryz.checked) oneOwn started (by kernel_rfl) Tryz.func8
  (ChangeSpec.witness6 (enc:=enc) (C:=Tryz.checked) false ⟨#[],#[.agg #[.slice none 0 0],.slice none 0 0,.int .i64 0],[]⟩ 8 (by kernel_rfl) (by kernel_rfl) (by kernel_rfl) (by kernel_rfl)) ?_
 intro W base args ds gs before hval0 hW hcnd hsz0 _;have hval:∀ (j:Nat) t v,Tryz.f8.params[j]?=some t→args[j]?=some v→Value.okWide Tryz.prog W .any base t v:=hval0;have hsz:(DataW.weightsEach Tryz.prog (Tryz.f8.params.toList++Rows.stepOneSpec.plain.varTypes Tryz.prog) (ds++gs)).all (·≤reachBytes)=true:=hsz0;have hW':=hW;obtain⟨p,q,hA0,hV,rfl,hfz,hnd⟩:=hW;have hA:DataW.TrodAll enc Tryz.prog W 0 (fun _=>true) true Tryz.f8.params.toList args.toList ds p:=hA0;rw[Tryz.params8] at hA hval hsz;obtain⟨v0,vs0,d0,ds0,p0,q0,hargs,rfl,rfl,h0,r0⟩:=trodAll_cons hA;obtain⟨v1,vs1,d1,ds1,p1,q1,rfl,rfl,rfl,h1,r1⟩:=trodAll_cons r0;obtain⟨v2,vs2,d2,ds2,p2,q2,rfl,rfl,rfl,h2,r2⟩:=trodAll_cons r1;obtain⟨rfl,rfl,rfl⟩:=trodAll_nil r2;obtain rfl:args= #[v0,v1,v2]:=by cases args;simp_all
 obtain⟨rfl,rfl⟩:=trodVars_none hV;obtain⟨cs0,hv0,_⟩:=okWide_struct Tryz.underlying47 (hval 0 47 v0 rfl rfl);have k0:=h0;have lt0:∀ x∈p0,x.block<W.heap.size:=by obtain⟨m,hm⟩:=k0;exact DataW.trod_lt m _ _ _ hm
 have hw0:WOk 47 d0:=by
  intro n hn;have h1:=List.all_eq_true.1 hsz n (Xs (i:=0) (t:=47) (d:=d0) rfl rfl hn);exact of_decide_eq_true h1
 have k1:=h1;have lt1:∀ x∈p1,x.block<W.heap.size:=by obtain⟨m,hm⟩:=k1;exact DataW.trod_lt m _ _ _ hm
 have hw1:WOk 62 d1:=by
  intro n hn;have h1:=List.all_eq_true.1 hsz n (Xs (i:=1) (t:=62) (d:=d1) rfl rfl hn);exact of_decide_eq_true h1
 have k2:=h2;have lt2:∀ x∈p2,x.block<W.heap.size:=by obtain⟨m,hm⟩:=k2;exact DataW.trod_lt m _ _ _ hm
 obtain⟨vp0,pr0,rfl,hP0⟩:∃ vp pr,v0=.agg #[vp]∧ProgAt W W.heap.size vp pr:=by
  obtain⟨fuel,hf⟩:=h0;exact Ziy hv0 hf hw0
 obtain⟨c1,hC1⟩:∃ c,SlAt intR 1 W W.heap.size v1 c:=by
  obtain⟨fuel,hf⟩:=h1;exact Ztq (hval 1 62 v1 rfl rfl) hf hw1
 obtain⟨z2,rfl,hz2a,hz2b⟩:∃ z:Int,v2=.int .i64 z∧-9223372036854775808≤z∧z≤9223372036854775807:=by
  obtain⟨fuel,hf⟩:=h2;exact Zpv Tryz.underlying3 (hval 2 3 v2 rfl rfl) hf
 clear hA0 hval0;refine (one_any pr0 vp0 v1 c1 z2 W.heap.size W (Nat.le_refl _) hP0 hC1).mono fun e W' ⟨he,hg⟩=>?_
 have bel:=Zk hg;subst he;have t0:=Below.trod Zxs (by kernel_rfl) (of_decide_eq_true (by kernel_rfl)) k0 bel lt0;have t1:=Below.trod Zxs (by kernel_rfl) (of_decide_eq_true (by kernel_rfl)) k1 bel lt1;have t2:=Below.trod Zxs (by kernel_rfl) (of_decide_eq_true (by kernel_rfl)) k2 bel lt2;exact⟨_,rfl,_,_,_,[],_,[],hW',trodAll_mk1 (shut_bool Tryz.underlying4 _),(trodAll_cons_mk t0 (trodAll_cons_mk t1 (trodAll_cons_mk t2 trodAll_mk0))),rfl,bel.frame _,fun h=>by cases h⟩
theorem oneA:(Rows.stepOneRow.inPlace == Tryz.prog.inPlace 8)=true:=by kernel_rfl
theorem oneB:(Rows.stepOneRow.unfollowed == Tryz.prog.unfollowed 8)=true:=by kernel_rfl
theorem oneC:(Rows.stepOneRow.recurses == Tryz.prog.recurses 8)=true:=by kernel_rfl
theorem oneD:(Rows.stepOneRow.named == Tryz.prog.varsNamed 8)=true:=by kernel_rfl
theorem Zym:joinedFacts Tryz.pinned.checked.prog 8 Tryz.f8 Rows.stepOneSpec Rows.stepOneRow=true:=by
 unfold joinedFacts;rw[show (Rows.stepOneRow.inPlace == Tryz.pinned.checked.prog.inPlace 8)=true from oneA,show (Rows.stepOneRow.unfollowed == Tryz.pinned.checked.prog.unfollowed 8)=true from oneB,show (Rows.stepOneRow.recurses == Tryz.pinned.checked.prog.recurses 8)=true from oneC,show (Rows.stepOneRow.named == Tryz.pinned.checked.prog.varsNamed 8)=true from oneD]
 kernel_rfl
theorem oneOver:Rows.stepOneRow.holds Tryz.pinned (OpenSpec.ofChange Rows.stepOneSpec):=
 OpenClaim.holds_of_wide 8 Tryz.f8 rfl rfl rfl rfl rfl rfl rfl ⟨rfl,rfl,rfl,rfl,rfl⟩ rfl rfl rfl rfl rfl (by kernel_rfl) Tryz.func8 Zym
  (of_decide_eq_true (by kernel_rfl)) (by unfold Func.isWrapper;first|(rw[if_pos (by decide+kernel)];kernel_rfl)|(rw[if_neg (by decide+kernel)];exact⟨rfl,rfl⟩))
  (fun os started H enc _=>Zyn os started H enc)
theorem stepOne_holds:Rows.StepOneSaid:=oneOver
#print axioms stepOne_holds
end Go.Proofs.YtphnnmecmiodhaaGreat

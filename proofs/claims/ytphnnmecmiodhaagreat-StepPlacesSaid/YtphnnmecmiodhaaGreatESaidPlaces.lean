/- The statement StepPlaces. No condition. -/
import Derived.Test.YtphnnmecmiodhaaGreatEFq
import Derived.Test.YtphnnmecmiodhaaGreatRows
import Derived.Test.YtphnnmecmiodhaaGreatELwPl
import Derived.Test.YtphnnmecmiodhaaGreatEOpn
set_option linter.all false
namespace Go.Proofs.YtphnnmecmiodhaaGreat
open Go.ChangeShapes Go.WideShapes Go.ChangeAt Go.RowKit
set_option maxRecDepth 100000
theorem Ygk:ownKnob Tryz.prog.godebug=none:=by kernel_rfl
theorem Yfu:laidOutB Tryz.prog=true:=by kernel_rfl
theorem Yfz (os:Os) (started:os.Started) (H:Type) (enc:TypeId×Value->H):
  ReturnsInHanded {} Tryz.checked os 9 .any (Rows.stepPlacesSpec.pre6 enc Tryz.prog Tryz.f9 Rows.stepPlacesRow.domain false) (Rows.stepPlacesSpec.post enc Tryz.prog Tryz.f9 false true false false):=by
 refine returnsInHanded_of_change_sized (C:=Tryz.checked) Ygk started (by kernel_rfl) Tryz.func9
  (ChangeSpec.witness6 (enc:=enc) (C:=Tryz.checked) false ⟨#[],#[.agg #[.slice none 0 0],.slice none 0 0],[]⟩ 8 (by kernel_rfl) (by kernel_rfl) (by kernel_rfl) (by kernel_rfl)) ?_
 intro W base args ds gs before hval0 hW hcnd hsz0 _;have hval:∀ (j:Nat) t v,Tryz.f9.params[j]?=some t->args[j]?=some v->Value.okWide Tryz.prog W .any base t v:=hval0;have hsz:(DataW.weightsEach Tryz.prog (Tryz.f9.params.toList++Rows.stepPlacesSpec.plain.varTypes Tryz.prog) (ds++gs)).all (·<=reachBytes)=true:=hsz0;have hW':=hW;obtain⟨p,q,hA0,hV,rfl,hfz,hnd⟩:=hW;have hA:DataW.TrodAll enc Tryz.prog W 0 (fun _=>true) true Tryz.f9.params.toList args.toList ds p:=hA0;rw[Tryz.params9] at hA hval hsz;obtain⟨v0,vs0,d0,ds0,p0,q0,hargs,rfl,rfl,h0,r0⟩:=trodAll_cons hA;obtain⟨v1,vs1,d1,ds1,p1,q1,rfl,rfl,rfl,h1,r1⟩:=trodAll_cons r0;obtain⟨rfl,rfl,rfl⟩:=trodAll_nil r1;obtain rfl:args= #[v0,v1]:=by cases args;simp_all
 obtain⟨rfl,rfl⟩:=trodVars_none hV;obtain⟨cs0,hv0,_⟩:=okWide_struct Tryz.underlying47 (hval 0 47 v0 rfl rfl);have k0:=h0;have lt0:∀ x∈p0,x.block<W.heap.size:=by obtain⟨m,hm⟩:=k0;exact DataW.trod_lt m _ _ _ hm
 have hw0:WOk 47 d0:=by
  intro n hn;have h1:=List.all_eq_true.1 hsz n (Xs (i:=0) (t:=47) (d:=d0) rfl rfl hn);exact of_decide_eq_true h1
 have k1:=h1;have lt1:∀ x∈p1,x.block<W.heap.size:=by obtain⟨m,hm⟩:=k1;exact DataW.trod_lt m _ _ _ hm
 have hw1:WOk 62 d1:=by
  intro n hn;have h1:=List.all_eq_true.1 hsz n (Xs (i:=1) (t:=62) (d:=d1) rfl rfl hn);exact of_decide_eq_true h1
 obtain⟨vp0,pr0,rfl,hP0⟩:∃ vp pr,v0=.agg #[vp]/\ProgAt W W.heap.size vp pr:=by
  obtain⟨fuel,hf⟩:=h0;exact Ziy hv0 hf hw0
 obtain⟨c1,hC1⟩:∃ c,SlAt intR 1 W W.heap.size v1 c:=by
  obtain⟨fuel,hf⟩:=h1;exact Ztq (hval 1 62 v1 rfl rfl) hf hw1
 clear hA0 hval0;refine (Ygn pr0 vp0 v1 c1 W.heap.size W (Lf _) hP0 hC1).mono fun e W' ⟨he,hg⟩=>?_
 have bel:=Zk hg;subst he;have t0:=Below.trod Yfu (by kernel_rfl) (of_decide_eq_true (by kernel_rfl)) k0 bel lt0;have t1:=Below.trod Yfu (by kernel_rfl) (of_decide_eq_true (by kernel_rfl)) k1 bel lt1;exact⟨_,rfl,_,_,_,[],_,[],hW',trodAll_mk1 (shut_bool Tryz.underlying4 _),(trodAll_cons_mk t0 (trodAll_cons_mk t1 trodAll_mk0)),rfl,bel.frame _,fun h=>by cases h⟩
theorem Ygx:(Rows.stepPlacesRow.inPlace == Tryz.prog.inPlace 9)=true:=by kernel_rfl
theorem Ygy:(Rows.stepPlacesRow.unfollowed == Tryz.prog.unfollowed 9)=true:=by kernel_rfl
theorem Ygz:(Rows.stepPlacesRow.recurses == Tryz.prog.recurses 9)=true:=by kernel_rfl
theorem Yha:(Rows.stepPlacesRow.named == Tryz.prog.varsNamed 9)=true:=by kernel_rfl
theorem Yfy:joinedFacts Tryz.pinned.checked.prog 9 Tryz.f9 Rows.stepPlacesSpec Rows.stepPlacesRow=true:=by
 unfold joinedFacts;rw[show (Rows.stepPlacesRow.inPlace == Tryz.pinned.checked.prog.inPlace 9)=true from Ygx,show (Rows.stepPlacesRow.unfollowed == Tryz.pinned.checked.prog.unfollowed 9)=true from Ygy,show (Rows.stepPlacesRow.recurses == Tryz.pinned.checked.prog.recurses 9)=true from Ygz,show (Rows.stepPlacesRow.named == Tryz.pinned.checked.prog.varsNamed 9)=true from Yha]
 kernel_rfl
theorem Ygg:Rows.stepPlacesRow.holds Tryz.pinned (OpenSpec.ofChange Rows.stepPlacesSpec):=
 OpenClaim.holds_of_wide 9 Tryz.f9 rfl rfl rfl rfl rfl rfl rfl ⟨rfl,rfl,rfl,rfl,rfl⟩ rfl rfl rfl rfl rfl (by kernel_rfl) Tryz.func9 Yfy
  (of_decide_eq_true (by kernel_rfl)) (by unfold Func.isWrapper;first|(rw[if_pos (by decide+kernel)];kernel_rfl)|(rw[if_neg (by decide+kernel)];exact⟨rfl,rfl⟩))
  (fun os started H enc _=>Yfz os started H enc)
theorem stepPlaces_holds:Rows.StepPlacesSaid:=Ygg
#print axioms stepPlaces_holds

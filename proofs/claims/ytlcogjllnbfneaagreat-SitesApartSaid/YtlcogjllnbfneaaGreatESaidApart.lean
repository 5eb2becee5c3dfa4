/- The statement SitesApart. No condition. -/
import Derived.Test.YtlcogjllnbfneaaGreatRows
import Derived.Test.YtlcogjllnbfneaaGreatELwAp
import Derived.Test.YtlcogjllnbfneaaGreatEOpn
import Derived.ProofKit
import Derived.ShutString
import Derived.ChangeOld
import Derived.Below
import Derived.SizedLaws
set_option linter.all false
namespace Go.Proofs.YtlcogjllnbfneaaGreat
open Go.ChangeShapes Go.WideShapes Go.ChangeAt Go.RowKit
set_option maxRecDepth 100000
theorem Yje:ownKnob Tryz.prog.godebug=none:=by kernel_rfl
theorem Yis:laidOutB Tryz.prog=true:=by kernel_rfl
theorem Yid (os:Os) (started:os.Started) (H:Type) (enc:TypeId×Value->H):
  ReturnsInHanded {} Tryz.checked os 4 .any (Rows.sitesApartSpec.pre6 enc Tryz.prog Tryz.f4 Rows.sitesApartRow.domain false) (Rows.sitesApartSpec.post enc Tryz.prog Tryz.f4 false true false false):=by
 refine returnsInHanded_of_change_sized (C:=Tryz.checked) Yje started (by kernel_rfl) Tryz.func4
  (ChangeSpec.witness6 (enc:=enc) (C:=Tryz.checked) false ⟨#[],#[.agg #[.slice none 0 0]],[]⟩ 8 (by kernel_rfl) (by kernel_rfl) (by kernel_rfl) (by kernel_rfl)) ?_
 intro W base args ds gs before hval0 hW hcnd hsz0 _;have hval:∀ (j:Nat) t v,Tryz.f4.params[j]?=some t->args[j]?=some v->Value.okWide Tryz.prog W .any base t v:=hval0;have hsz:(DataW.weightsEach Tryz.prog (Tryz.f4.params.toList++Rows.sitesApartSpec.plain.varTypes Tryz.prog) (ds++gs)).all (·<=reachBytes)=true:=hsz0;have hW':=hW;obtain⟨p,q,hA0,hV,rfl,hfz,hnd⟩:=hW;have hA:DataW.TrodAll enc Tryz.prog W 0 (fun _=>true) true Tryz.f4.params.toList args.toList ds p:=hA0;rw[Tryz.params4] at hA hval hsz;obtain⟨v0,vs0,d0,ds0,p0,q0,hargs,rfl,rfl,h0,r0⟩:=trodAll_cons hA;obtain⟨rfl,rfl,rfl⟩:=trodAll_nil r0;obtain rfl:args= #[v0]:=by cases args;simp_all
 obtain⟨rfl,rfl⟩:=trodVars_none hV;obtain⟨cs0,hv0,_⟩:=okWide_struct Tryz.underlying47 (hval 0 47 v0 rfl rfl);have k0:=h0;have lt0:∀ x∈p0,x.block<W.heap.size:=by obtain⟨m,hm⟩:=k0;exact DataW.trod_lt m _ _ _ hm
 have hw0:WOk 47 d0:=by
  intro n hn;have h1:=List.all_eq_true.1 hsz n (Xs (i:=0) (t:=47) (d:=d0) rfl rfl hn);exact of_decide_eq_true h1
 obtain⟨vp0,pr0,rfl,hP0⟩:∃ vp pr,v0=.agg #[vp]/\ProgAt W W.heap.size vp pr:=by
  obtain⟨fuel,hf⟩:=h0;exact Ziy hv0 hf hw0
 clear hA0 hval0;refine (Yiu pr0 vp0 W.heap.size W (Lf _) hP0).mono fun e W' ⟨he,hg⟩=>?_
 have bel:=Zk hg;subst he;have t0:=Below.trod Yis (by kernel_rfl) (of_decide_eq_true (by kernel_rfl)) k0 bel lt0;exact⟨_,rfl,_,_,_,[],_,[],hW',trodAll_mk1 (shut_bool Tryz.underlying4 _),(trodAll_cons_mk t0 trodAll_mk0),rfl,bel.frame _,fun h=>by cases h⟩
theorem apartA:(Rows.sitesApartRow.inPlace == Tryz.prog.inPlace 4)=true:=by kernel_rfl
theorem apartB:(Rows.sitesApartRow.unfollowed == Tryz.prog.unfollowed 4)=true:=by kernel_rfl
theorem apartC:(Rows.sitesApartRow.recurses == Tryz.prog.recurses 4)=true:=by kernel_rfl
theorem apartD:(Rows.sitesApartRow.named == Tryz.prog.varsNamed 4)=true:=by kernel_rfl
theorem Yic:joinedFacts Tryz.pinned.checked.prog 4 Tryz.f4 Rows.sitesApartSpec Rows.sitesApartRow=true:=by
 unfold joinedFacts;rw[show (Rows.sitesApartRow.inPlace == Tryz.pinned.checked.prog.inPlace 4)=true from apartA,show (Rows.sitesApartRow.unfollowed == Tryz.pinned.checked.prog.unfollowed 4)=true from apartB,show (Rows.sitesApartRow.recurses == Tryz.pinned.checked.prog.recurses 4)=true from apartC,show (Rows.sitesApartRow.named == Tryz.pinned.checked.prog.varsNamed 4)=true from apartD]
 kernel_rfl
theorem Yit:Rows.sitesApartRow.holds Tryz.pinned (OpenSpec.ofChange Rows.sitesApartSpec):=
 OpenClaim.holds_of_wide 4 Tryz.f4 rfl rfl rfl rfl rfl rfl rfl ⟨rfl,rfl,rfl,rfl,rfl⟩ rfl rfl rfl rfl rfl (by kernel_rfl) Tryz.func4 Yic
  (of_decide_eq_true (by kernel_rfl)) (by unfold Func.isWrapper;first|(rw[if_pos (by decide+kernel)];kernel_rfl)|(rw[if_neg (by decide+kernel)];exact⟨rfl,rfl⟩))
  (fun os started H enc _=>Yid os started H enc)
theorem sitesApart_holds:Rows.SitesApartSaid:=Yit
#print axioms sitesApart_holds

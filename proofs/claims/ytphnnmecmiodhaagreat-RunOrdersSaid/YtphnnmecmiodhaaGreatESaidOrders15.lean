/- The statement RunOrders. No condition. -/
import Derived.Test.YtphnnmecmiodhaaGreatRows
import Derived.Test.YtphnnmecmiodhaaGreatERnOr
import Derived.Test.YtphnnmecmiodhaaGreatEOpn
set_option linter.unusedVariables false
set_option linter.unusedSimpArgs false
namespace Go.Proofs.YtphnnmecmiodhaaGreat
open Go.ChangeShapes Go.WideShapes Go.ChangeAt Go.RowKit
set_option maxRecDepth 100000
theorem Ydi:ownKnob Tryz.prog.godebug=none:=by kernel_rfl
theorem Yac:laidOutB Tryz.prog=true:=by kernel_rfl
theorem Ybr (os:Os) (started:os.Started) (H:Type) (enc:TypeId×Value->H):
  ReturnsInHanded {} Tryz.checked os 10 .any (Rows.runOrdersSpec.pre6 enc Tryz.prog Tryz.f10 Rows.runOrdersRow.domain false) (Rows.runOrdersSpec.post enc Tryz.prog Tryz.f10 false true false false):=by
 refine returnsInHanded_of_change_sized (C:=Tryz.checked) Ydi started (by kernel_rfl) Tryz.func10
  (ChangeSpec.witness6 (enc:=enc) (C:=Tryz.checked) false ⟨#[],#[.agg #[.int .i64 0,.int .i64 0,.int .i64 0,.int .i64 0,.int .i64 0],.agg #[.int .i64 0,.int .i64 0,.int .i64 0,.int .i64 0,.int .i64 0],.agg #[.int .i64 0,.int .i64 0,.int .i64 0,.int .i64 0],.agg #[.int .i64 0,.int .i64 0,.int .i64 0,.int .i64 0]],[]⟩ 8 (by kernel_rfl) (by kernel_rfl) (by kernel_rfl) (by kernel_rfl)) ?_
 intro W base args ds gs before hval0 hW hcnd hsz0 _;have hval:∀ (j:Nat) t v,Tryz.f10.params[j]?=some t->args[j]?=some v->Value.okWide Tryz.prog W .any base t v:=hval0;have hsz:(DataW.weightsEach Tryz.prog (Tryz.f10.params.toList++Rows.runOrdersSpec.plain.varTypes Tryz.prog) (ds++gs)).all (·<=reachBytes)=true:=hsz0;have hW':=hW;obtain⟨p,q,hA0,hV,rfl,hfz,hnd⟩:=hW;have hA:DataW.TrodAll enc Tryz.prog W 0 (fun _=>true) true Tryz.f10.params.toList args.toList ds p:=hA0;rw[Tryz.params10] at hA hval hsz;obtain⟨v0,vs0,d0,ds0,p0,q0,hargs,rfl,rfl,h0,r0⟩:=trodAll_cons hA;obtain⟨v1,vs1,d1,ds1,p1,q1,rfl,rfl,rfl,h1,r1⟩:=trodAll_cons r0;obtain⟨v2,vs2,d2,ds2,p2,q2,rfl,rfl,rfl,h2,r2⟩:=trodAll_cons r1;obtain⟨v3,vs3,d3,ds3,p3,q3,rfl,rfl,rfl,h3,r3⟩:=trodAll_cons r2;obtain⟨rfl,rfl,rfl⟩:=trodAll_nil r3;obtain rfl:args= #[v0,v1,v2,v3]:=by cases args;simp_all
 obtain⟨rfl,rfl⟩:=trodVars_none hV;obtain⟨cs0,hv0,_⟩:=okWide_struct Tryz.underlying93 (hval 0 93 v0 rfl rfl);have k0:=h0;have lt0:∀ x∈p0,x.block<W.heap.size:=by obtain⟨m,hm⟩:=k0;exact DataW.trod_lt m _ _ _ hm
 have hw0:WOk 93 d0:=by
  intro n hn;have h1:=List.all_eq_true.1 hsz n (Xs (i:=0) (t:=93) (d:=d0) rfl rfl hn);exact of_decide_eq_true h1
 obtain⟨cs1,hv1,_⟩:=okWide_struct Tryz.underlying93 (hval 1 93 v1 rfl rfl);have k1:=h1;have lt1:∀ x∈p1,x.block<W.heap.size:=by obtain⟨m,hm⟩:=k1;exact DataW.trod_lt m _ _ _ hm
 have hw1:WOk 93 d1:=by
  intro n hn;have h1:=List.all_eq_true.1 hsz n (Xs (i:=1) (t:=93) (d:=d1) rfl rfl hn);exact of_decide_eq_true h1
 obtain⟨cs2,hv2,_⟩:=okWide_struct Tryz.underlying81 (hval 2 81 v2 rfl rfl);have k2:=h2;have lt2:∀ x∈p2,x.block<W.heap.size:=by obtain⟨m,hm⟩:=k2;exact DataW.trod_lt m _ _ _ hm
 have hw2:WOk 81 d2:=by
  intro n hn;have h1:=List.all_eq_true.1 hsz n (Xs (i:=2) (t:=81) (d:=d2) rfl rfl hn);exact of_decide_eq_true h1
 obtain⟨cs3,hv3,_⟩:=okWide_struct Tryz.underlying81 (hval 3 81 v3 rfl rfl);have k3:=h3;have lt3:∀ x∈p3,x.block<W.heap.size:=by obtain⟨m,hm⟩:=k3;exact DataW.trod_lt m _ _ _ hm
 have hw3:WOk 81 d3:=by
  intro n hn;have h1:=List.all_eq_true.1 hsz n (Xs (i:=3) (t:=81) (d:=d3) rfl rfl hn);exact of_decide_eq_true h1
 obtain⟨x0a,x0b,x0c,x0d,x0e,rfl⟩:∃ x0a x0b x0c x0d x0e:Int,v0=.agg #[.int .i64 x0a,.int .i64 x0b,.int .i64 x0c,.int .i64 x0d,.int .i64 x0e]:=by
  obtain⟨fuel,hf⟩:=h0;exact Ybw hv0 hf hw0
 obtain⟨x1a,x1b,x1c,x1d,x1e,rfl⟩:∃ x1a x1b x1c x1d x1e:Int,v1=.agg #[.int .i64 x1a,.int .i64 x1b,.int .i64 x1c,.int .i64 x1d,.int .i64 x1e]:=by
  obtain⟨fuel,hf⟩:=h1;exact Ybw hv1 hf hw1
 obtain⟨x2a,x2b,x2c,x2d,rfl⟩:∃ x2a x2b x2c x2d:Int,v2=.agg #[.int .i64 x2a,.int .i64 x2b,.int .i64 x2c,.int .i64 x2d]:=by
  obtain⟨fuel,hf⟩:=h2;exact Ycs hv2 hf hw2
 obtain⟨x3a,x3b,x3c,x3d,rfl⟩:∃ x3a x3b x3c x3d:Int,v3=.agg #[.int .i64 x3a,.int .i64 x3b,.int .i64 x3c,.int .i64 x3d]:=by
  obtain⟨fuel,hf⟩:=h3;exact Ycs hv3 hf hw3
 clear hA0 hval0;refine (Ycp x0a x0b x0c x0d x0e x1a x1b x1c x1d x1e x2a x2b x2c x2d x3a x3b x3c x3d W).mono fun e W' ⟨he,hg⟩=>?_
 have bel:=Zk hg;subst he;have t0:=Below.trod Yac (by kernel_rfl) (of_decide_eq_true (by kernel_rfl)) k0 bel lt0;have t1:=Below.trod Yac (by kernel_rfl) (of_decide_eq_true (by kernel_rfl)) k1 bel lt1;have t2:=Below.trod Yac (by kernel_rfl) (of_decide_eq_true (by kernel_rfl)) k2 bel lt2;have t3:=Below.trod Yac (by kernel_rfl) (of_decide_eq_true (by kernel_rfl)) k3 bel lt3;exact⟨_,rfl,_,_,_,[],_,[],hW',trodAll_mk1 (shut_bool Tryz.underlying4 _),(trodAll_cons_mk t0 (trodAll_cons_mk t1 (trodAll_cons_mk t2 (trodAll_cons_mk t3 trodAll_mk0)))),rfl,bel.frame _,fun h=>by cases h⟩
theorem ordersA:(Rows.runOrdersRow.inPlace == Tryz.prog.inPlace 10)=true:=by kernel_rfl
theorem ordersB:(Rows.runOrdersRow.unfollowed == Tryz.prog.unfollowed 10)=true:=by kernel_rfl
theorem ordersC:(Rows.runOrdersRow.recurses == Tryz.prog.recurses 10)=true:=by kernel_rfl
theorem ordersD:(Rows.runOrdersRow.named == Tryz.prog.varsNamed 10)=true:=by kernel_rfl
theorem Ybq:joinedFacts Tryz.pinned.checked.prog 10 Tryz.f10 Rows.runOrdersSpec Rows.runOrdersRow=true:=by
 unfold joinedFacts;rw[show (Rows.runOrdersRow.inPlace == Tryz.pinned.checked.prog.inPlace 10)=true from ordersA,show (Rows.runOrdersRow.unfollowed == Tryz.pinned.checked.prog.unfollowed 10)=true from ordersB,show (Rows.runOrdersRow.recurses == Tryz.pinned.checked.prog.recurses 10)=true from ordersC,show (Rows.runOrdersRow.named == Tryz.pinned.checked.prog.varsNamed 10)=true from ordersD]
 kernel_rfl
theorem Yco:Rows.runOrdersRow.holds Tryz.pinned (OpenSpec.ofChange Rows.runOrdersSpec):=
 OpenClaim.holds_of_wide 10 Tryz.f10 rfl rfl rfl rfl rfl rfl rfl ⟨rfl,rfl,rfl,rfl,rfl⟩ rfl rfl rfl rfl rfl (by kernel_rfl) Tryz.func10 Ybq
  (of_decide_eq_true (by kernel_rfl)) (by unfold Func.isWrapper;first|(rw[if_pos (by decide+kernel)];kernel_rfl)|(rw[if_neg (by decide+kernel)];exact⟨rfl,rfl⟩))
  (fun os started H enc _=>Ybr os started H enc)
theorem runOrders_holds:Rows.RunOrdersSaid:=Yco
#print axioms runOrders_holds

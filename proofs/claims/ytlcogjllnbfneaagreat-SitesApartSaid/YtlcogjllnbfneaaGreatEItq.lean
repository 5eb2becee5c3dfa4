/- A region that draws. No condition. -/
import Derived.OrdersIn
import Derived.Deep.RegionHeld
import Derived.Test.YtlcogjllnbfneaaGreatESta
set_option maxHeartbeats 4000000
set_option maxRecDepth 100000
set_option linter.all false
namespace Go.Proofs.YtlcogjllnbfneaaGreat
open Lib(hid)
section
open Go.RowKit
theorem Zpc {l n:Nat} {P:Program} {o:Oper} {a:Act} {w:World} {K:Act->World->Prop} {Q:Exit->Act->World->Prop} (hd:∀ c,o.op≠.defer c) (h:o.wp P a w K Q):o.wpIn (Fence.wide.inRound l) n P a w K Q:=by
 refine⟨fun _ _=>trivial,?_⟩;rw[Oper.semAt_eq _ _ _ hd];unfold Oper.wp at h;generalize (execOp a.eval o).run P w=r at*
 cases r with
 |ok x w'=>
  cases x<;>simp only[Oper.upon,Oper.uponIn] at h ⊢<;>first
   |exact h
   |exact h.elim
   |exact⟨fun hs=>(by cases hs),CallsIn.inRound l (callsIn_wide.2 h)⟩
   |exact⟨fun hs=>(by cases hs),fun c cs _=>by obtain⟨v,w',r,s⟩:=h c cs;exact⟨v,w',r,stepsIn_wide.2 s⟩⟩
 |halt x w'=>cases x<;>simp only[Oper.upon,Oper.uponIn] at h ⊢<;>exact h
theorem Zpt {l n:Nat} {P:Program} {ops:Array Oper} {Q:Exit->Act->World->Prop} {i:Nat} {K K':Act->World->Prop} {a:Act} {w:World} (hd:∀ o∈ops,∀ c,o.op≠.defer c) (hQ:¬ LetsOut Q) (hK:∀ a w,K a w->K' a w) (h:wpOp P ops Q i K a w):wpOpIn (Fence.wide.inRound l) n P ops Q i K' a w:=by
 unfold wpOp at h;unfold wpOpIn
 cases ho:ops[i]? with
 |none=>rw[ho] at h;exact hK _ _ h
 |some o=>
  rw[ho] at h;simp only at h ⊢
  split
  ·rename_i hw
   rw[if_pos hw] at h;exact Oper.wpIn_mono hK (Zpc (hd o (Array.mem_of_getElem? ho)) (h.resolve_right fun h=>hQ h.2))
  ·rename_i hw
   rw[if_neg hw] at h;exact⟨fun _ _=>trivial,hK _ _ h⟩
theorem Zej {l n:Nat} {P:Program} {md:Region.Mode} {ops:Array Oper} {Q:Exit->Act->World->Prop} (hd:∀ o∈ops,∀ c,o.op≠.defer c) (hQ:¬ LetsOut Q):∀ (fuel:Nat) (listed:Array Bool) (a:Act) (w:World),
  wpAny P md ops Q fuel listed a w->wpAnyIn (Fence.wide.inRound l) n P md ops Q fuel listed a w
 |0,_,_,_,h=>h
 |fuel+1,listed,a,w,h=>⟨h.1,fun i hi=>Zpt hd hQ (fun a w h=>Zej hd hQ fuel _ a w h) (h.2 i hi)⟩
theorem Zki {l n id:Nat} {P:Program} {ops:Array Oper} {Q:Exit->Act->World->Prop} {a:Act} {w:World} (hm:P.follows .mixedOrders=true) (hd:∀ o∈ops,∀ c,o.op≠.defer c) (hQ:¬ LetsOut Q)
  (h:wpAny P .any ops Q ops.size (Array.replicate ops.size false) a w.drew):(Code.region id ops true).wpIn (Fence.wide.inRound l) n P Q a w:=
 wpIn_region_any hm (Zej hd hQ _ _ _ _ h)
theorem Vq {l n id:Nat} {P:Program} {ops:List Oper} {Q:Exit->Act->World->Prop} {a:Act} {w:World} (S:World->Prop) (hm:P.follows .mixedOrders=true) (hd:∀ o∈ops,∀ c,o.op≠.defer c) (hQ:¬ LetsOut Q) (hS:S w.drew)
  (h:S w.drew->wpAnyH P .any ops.toArray Q S ops.length (Array.replicate ops.length false) a w.drew):(Code.region id ops.toArray true).wpIn (Fence.wide.inRound l) n P Q a w:=
 Zki hm (fun o ho=>hd o (by simpa using ho)) hQ (wpAny_of_held _ _ _ _ (h hS))
theorem Yb {P:Program} {md:Region.Mode} {ops rest:List Oper} {Q:Exit->Act->World->Prop} {S:World->Prop} {i:Nat} {oi:Oper} {v:Value} {fuel:Nat} {listed:Array Bool} {a:Act} {w:World} (hi:ops.drop i=oi::rest)
  (hs:Region.noSelect ops.toArray=true) (hf:Region.free md ops.toArray listed i=true) (hr:(Region.ready md ops.toArray listed).contains i=true)
  (hQ:∀ c a w,Q (.panic c) (a.put oi.dst v) w->Q (.panic c) a w) (hy:YieldsIf P ops.toArray S oi v a) (hS:S w)
  (h:wpAnyH P md ops.toArray Q S fuel (listed.setIfInBounds i true) (a.put oi.dst v) w):wpAnyH P md ops.toArray Q S (fuel+1) listed a w:=
 wpAnyH_take (by
  have:=congrArg List.head? hi
  rw[List.head?_drop] at this
  simpa using this) hs hf hr hQ hy hS h
theorem doH {P:Program} {md:Region.Mode} {ops rest:List Oper} {Q:Exit->Act->World->Prop} {S:World->Prop} {i:Nat} {o:Oper} {fuel:Nat} {listed:Array Bool} {a:Act} {w:World} (hr:Region.ready md ops.toArray listed=[i]) (hi:ops.drop i=o::rest)
  (h:∀ K':Act->World->Prop,Shut (∀ a w,S w->(S w->wpAnyH P md ops.toArray Q S fuel (listed.setIfInBounds i true) a w)->K' a w)->if Region.wanted o (yielded ops.toArray a.tmps)=true then Oper.wp P o a w K' Q else K' (a.put o.dst undef) w):
  wpAnyH P md ops.toArray Q S (fuel+1) listed a w:=
 wpAnyH_ready hr (by simp) (AllReadyH.cons (by
  have:=congrArg List.head? hi
  rw[List.head?_drop] at this
  simpa using this) h AllReadyH.nil)
theorem doH2 {P:Program} {md:Region.Mode} {ops rest rest':List Oper} {Q:Exit->Act->World->Prop} {S:World->Prop} {i j:Nat} {o o':Oper} {fuel:Nat} {listed:Array Bool} {a:Act} {w:World} (hr:Region.ready md ops.toArray listed=[i,j]) (hi:ops.drop i=o::rest) (hj:ops.drop j=o'::rest')
  (h:∀ K':Act->World->Prop,Shut (∀ a w,S w->(S w->wpAnyH P md ops.toArray Q S fuel (listed.setIfInBounds i true) a w)->K' a w)->if Region.wanted o (yielded ops.toArray a.tmps)=true then Oper.wp P o a w K' Q else K' (a.put o.dst undef) w)
  (h':∀ K':Act->World->Prop,Shut (∀ a w,S w->(S w->wpAnyH P md ops.toArray Q S fuel (listed.setIfInBounds j true) a w)->K' a w)->if Region.wanted o' (yielded ops.toArray a.tmps)=true then Oper.wp P o' a w K' Q else K' (a.put o'.dst undef) w):
  wpAnyH P md ops.toArray Q S (fuel+1) listed a w:=
 wpAnyH_ready hr (by simp) (AllReadyH.cons (by
  have:=congrArg List.head? hi
  rw[List.head?_drop] at this
  simpa using this) h (AllReadyH.cons (by
   have:=congrArg List.head? hj
   rw[List.head?_drop] at this
   simpa using this) h' AllReadyH.nil))
theorem Zpq {G R:Prop} (use:G->R) (key:G):R:=use key
def noDefer (ops:List Oper):Bool:=ops.all fun o=>match o.op with
 | .defer _=>false
 |_=>true
theorem Uk {ops:List Oper} (h:noDefer ops=true):∀ o∈ops,∀ c,o.op≠.defer c:=fun o ho c e=>by
 have:=List.all_eq_true.1 h o ho;rw[e] at this
 cases this
end
section
open Go.RowKit Go.Shelf
attribute [local go_sem] Oper.semAt_some
theorem Zpi (n:Nat) (hn:1<=n) (l cb B:Nat) (p:GProg) (vp:Value) (w0:World) (h:ProgAt w0 B vp p) (J Jx:List (Pt4 w0 B p)->World->Prop) (hJa:∀ s W o,J s W->J s (W.alloc o)) (hJc:∀ s W,J s W->W.cell? ⟨cb,0,none⟩=some vp)
  (hY:∀ pre x W,J pre W->pre.length<(pts p).length->YieldAt Fence.wide (n-1) Tryz.prog l (Zlo x) W fun e W'=>
   (e=.returned (.bool true)/\J (pre++[x]) W'/\Below B W W')\/(e=.returned (.bool false)/\Jx (pre++[x]) W'))
  (W:World) (hW:Below B w0 W) (hBW:B<=W.heap.size) (h0:J [] W):
  CallsIn Fence.wide n Tryz.prog 98 #[.func (.yield l) #[] #[],.pointer (some ⟨cb,0,none⟩)] W fun e W'=>(∃ v,e=.returned v)/\
   ((∃ xs,xs.map pj=pts p/\J xs W')\/(∃ pre,pre.map pj<+:pts p/\Jx pre W')):=by
 obtain⟨A,c,rfl,hm,hlc,hcm,hA⟩:=h.open_;have c0:=hJc _ _ h0;have hJh:=hid hJa;have hYh:=hid hY;have hJch:=hid hJc;clear h hJa hY hJc;refine callsIn_of_wp Tryz.func98 rfl trivial ?_ rfl;simp only[Tryz.ntmps98,List.size_toArray,List.length_cons,List.length_nil,Nat.reduceAdd,Nat.reduceSub,Array.replicate_succ,Array.replicate_zero,List.push_toArray,List.append_toArray,List.nil_append,List.cons_append];gi_wp2;gi_loopw [10] (fun s8 wr=>∃ k:Nat,k<=p.length/\s8=.int .i64 k/\Hid (Below B W wr/\B<=wr.heap.size)/\Hid (∃ xs,xs.map pj=X7 p k/\J xs wr)) (fun s8 _=>p.length-(intOf s8).toNat)
 case atStart=>exact⟨0,Ln _,rfl,⟨Below.refl _ _,hBW⟩,[],by simp[Kf],h0⟩
 case round=>
  obtain⟨k,hkl,rfl,hg,hX⟩:=hrel;clear c0;have c0:wr.cell? ⟨cb,0,none⟩=some (.slice A p.length c):=by obtain⟨xs,_,h2⟩:=hX.out;exact hJch.out _ _ h2
  have hb:=hW.trans hg.out.1;have hBr:=hg.out.2
  by_cases hl:k<p.length
  ·obtain⟨x,b,off,hx,rfl,hbB,hr⟩:=hA.at_ hl;obtain⟨A1,d1,A2,d2,hf,m1,m2,e0,e1,e2⟩:=Yh hr;have He2:=hid (show ∀ W':World,Below B W W'->W'.cell? ⟨b,off+k*3+2,none⟩=some (.slice A2 x.bk9.length d2) from fun W' hg=>cur (hW.trans hg) hbB e2);replace e2:=cur hb hbB e2;have Hx:=hid hx;have hB2:=hf.bk9
   have HX2:=hid (show ∃ xs,xs.map pj=Vj p k x.bk9 0/\J xs wr from by
    obtain⟨xs,h1,h2⟩:=hX.out
    exact⟨xs,by rw[h1,Zdz],h2⟩)
   have Hg2:=hg;clear hx hr hf e0 e1 hb hBr;gi_wp2;clear e2 c0;gi_loopw [20] (fun s8 wr=>∃ k2:Nat,k2<=x.bk9.length/\s8=.int .i64 k2/\Hid (Below B W wr/\B<=wr.heap.size)/\Hid (∃ xs,xs.map pj=Vj p k x.bk9 k2/\J xs wr)) (fun s8 _=>x.bk9.length-(intOf s8).toNat)
   case atStart=>exact⟨0,Ln _,rfl,Hg2,HX2⟩
   case round=>
    obtain⟨k2,hkl2,rfl,hg2,hX2⟩:=hrel;have hb:=hW.trans hg2.out.1;have hBr:=hg2.out.2;have c0:wr.cell? ⟨cb,0,none⟩=some (.slice (some ⟨b,off,none⟩) p.length c):=by obtain⟨xs,_,h2⟩:=hX2.out;exact hJch.out _ _ h2
    have e2:=He2.out wr hg2.out.1
    by_cases hl2:k2<x.bk9.length
    ·obtain⟨y,b2,off2,hy,rfl,hbB2,hr2⟩:=hB2.at_ hl2;obtain⟨A3,d3,hf2,m3,e0,e1⟩:=Yg hr2;replace e1:=cur hb hbB2 e1;have Hy:=hid hy;have hB3:=hf2.code
     have HX3:=hid (show ∃ xs,xs.map pj=Xv p k x.bk9 k2 y.code 0/\J xs wr from by
      obtain⟨xs,h1,h2⟩:=hX2.out
      exact⟨xs,by rw[h1,Zea],h2⟩)
     have Hg3:=hg2;clear hy hr2 hb hf2 e0 hBr;gi_wp2;clear e1 e2 c0;gi_loopw [34] (fun s8 wr=>∃ k3:Nat,k3<=y.code.length/\s8=.int .i64 k3/\Hid (Below B W wr/\B<=wr.heap.size)/\Hid (∃ xs,xs.map pj=Xv p k x.bk9 k2 y.code k3/\J xs wr)) (fun s8 _=>y.code.length-(intOf s8).toNat)
     case atStart=>exact⟨0,Ln _,rfl,Hg3,HX3⟩
     case round=>
      obtain⟨k3,hkl3,rfl,hg3,hX3⟩:=hrel;have hb:=hW.trans hg3.out.1;have hBr:=hg3.out.2
      by_cases hl3:k3<y.code.length
      ·obtain⟨z,b3,off3,hz,rfl,hbB3,hr3⟩:=hB3.at_ hl3;obtain⟨A4,d4,A5,d5,hf3,m4,m5,e0,e1,e2,e3,e4,e5,e6,e7⟩:=Yw hr3;have hbne3:b3≠wr.heap.size:=by omega
       replace e0:=cur hb hbB3 e0;replace e1:=cur hb hbB3 e1;replace e2:=cur hb hbB3 e2;replace e3:=cur hb hbB3 e3;replace e4:=cur hb hbB3 e4;replace e5:=cur hb hbB3 e5;replace e6:=cur hb hbB3 e6;replace e7:=cur hb hbB3 e7;obtain⟨xs,hxs,hJx⟩:=hX3.out;obtain⟨q,hq⟩:∃ q:Pt4 w0 B p,q=⟨((k,k2,k3),z,.slice A4 z.args.length d4,.slice A5 z.lb9.length d5),hf3,Zbu Hx.out Hy.out hz⟩:=⟨_,rfl⟩
       have hpq:pj q=((k,k2,k3),z):=by rw[hq];rfl
       have hpre:(xs++[q]).map pj<+:pts p:=by
        rw[List.map_append,hxs,List.map_cons,List.map_nil,hpq];exact Um Hx.out Hy.out hz
       have hlen:xs.length<(pts p).length:=by
        have:=hpre.length_le;simp at this;omega
       obtain⟨fn,tmps,assign,body,hy9,hR⟩:=hYh.out xs q (wr.alloc (.cells #[.int .u8 z.op,.string ⟨z.dst.toArray⟩,.string ⟨z.a.toArray⟩,.string ⟨z.b.toArray⟩,.int .i64 z.n,.string ⟨z.fn.toArray⟩,.slice A4 z.args.length d4,.slice A5 z.lb9.length d5] 25)) (hJh.out _ _ _ hJx) hlen;have he:Zlo q= #[.agg #[.int .i64 k,.int .i64 k2,.int .i64 k3],.agg #[.int .u8 z.op,.string ⟨z.dst.toArray⟩,.string ⟨z.a.toArray⟩,.string ⟨z.b.toArray⟩,.int .i64 z.n,.string ⟨z.fn.toArray⟩,.slice A4 z.args.length d4,.slice A5 z.lb9.length d5]]:=by
        rw[hq];rfl
       rw[he] at hy9;have Hxs:=hid (show (xs++[q]).map pj=Xv p k x.bk9 k2 y.code (k3+1) by rw[List.map_append,hxs,List.map_cons,List.map_nil,hpq,Kg hz]);have Hpre:=hid hpre;clear hz hr3 hf3 hq hpq hpre he hxs hlen hb;gi_wp2;refine hR.mono ?_;rintro e W3 (⟨rfl,hJ3,hk3⟩|⟨rfl,hJx3⟩)
       ·gi_wp2;go_roundw
        case rel=>exact⟨k3+1,by omega,by go_num,⟨(hg3.out.1.alloc hBr _).trans hk3,by have:=hk3.size;simp at this;omega⟩,_,Hxs.out,hJ3⟩
        case measure=>simp[intOf];omega
       ·gi_wp2;refine bodyPost_ret (results_none rfl _ _ _) rfl ?_;exact⟨⟨_,rfl⟩,.inr ⟨_,Hpre.out,hJx3⟩⟩
      ·have HXn:=hid (show ∃ xs,xs.map pj=Vj p k x.bk9 (k2+1)/\J xs wr by
        obtain⟨xs,h1,h2⟩:=hX3.out
        exact⟨xs,by rw[h1,Zdy Hy.out hl3],h2⟩)
       clear hb;gi_wp2;go_roundw
       case rel=>exact⟨k2+1,by omega,by go_num,hg3.out,HXn.out⟩
       case measure=>simp[intOf];omega
    ·have HXn:=hid (show ∃ xs,xs.map pj=X7 p (k+1)/\J xs wr by
      obtain⟨xs,h1,h2⟩:=hX2.out
      exact⟨xs,by rw[h1,Jy Hx.out hl2],h2⟩)
     clear hb;gi_wp2;go_roundw
     case rel=>exact⟨k+1,by omega,by go_num,hg2.out,HXn.out⟩
     case measure=>simp[intOf];omega
  ·clear hb;gi_wp2;go_end0;obtain⟨xs,h1,h2⟩:=hX.out;exact⟨⟨_,rfl⟩,.inl ⟨xs,by rw[h1,Zbb hl],h2⟩⟩
end
section
open Go.RowKit Go.Shelf
theorem SlAt.one {α:Type} {R:Rdr α} {sz:Nat} {w:World} {B:Nat} {l:List α} {A:Option Addr} {n c k:Nat} {x:α} (h:SlAt R sz w B (.slice A n c) l) (hx:l[k]?=some x):
  ∃ b off,A=some ⟨b,off,none⟩/\b<B/\SlAt R sz w B (.slice (some ⟨b,off+k*sz,none⟩) 1 (c-k)) [x]:=by
 obtain⟨A',c',e,h1,h2,h3⟩:=h;injection e with e1 e2 e3
 subst e1;subst e3;obtain⟨b,off,e,hb,hr⟩:=h3 k x hx;have hk:=(Le hx).1;refine⟨b,off,e,hb,_,_,rfl,by simp;omega,by omega,fun j y hy=>?_⟩
 cases j with
 |zero=>
  simp only[List.getElem?_cons_zero,Option.some.injEq] at hy;subst hy;exact⟨b,_,rfl,hb,by simpa using hr⟩
 |succ j=>simp at hy
theorem szFunc:∀ W,(sizeOf 37).run Tryz.prog W=.ok 3 W:=fun _=>by kernel_rfl
theorem Yip (b off n c k:Nat) (hk:k<n) (hn:n<=c) (W:World):(Instr.slice 45 (.slice (some ⟨b,off,none⟩) n c) (some (.int .i64 k)) (some (.int .i64 ((k:Int)+1))) none).run Tryz.prog W=.ok (.slice (some ⟨b,off+k*3,none⟩) 1 (c-k)) W:=by
 have h1:(k:Int)+1<=(c:Int):=by omega
 have h2:(k:Int)<=(k:Int)+1:=by omega
 have h3:(0:Int)<=(k:Int)+1:=by omega
 have h4:((k:Int)+1).toNat=k+1:=by omega
 have h5:¬ c=k:=by omega
 simp[Instr.slice,Instr.sliceBounds,Instr.sliceBound,run_underlying Tryz.underlying45,Result.andThen,asIntOf,h1,h2,h3,h4,h5,szFunc,Addr.add]
theorem Zth (A:Option Addr) (n c:Nat) (w:World):
  Calls Tryz.prog 65 #[.agg #[.slice A n c]] w fun e w'=>e=.returned (.func (.func 98) #[] #[.pointer (some ⟨w.heap.size,0,none⟩)])/\w'=w.alloc (.cells #[.slice A n c] 47):=by
 go_enter Tryz.func65,Tryz.ntmps65;go_wp2;go_ret;exact⟨rfl,rfl⟩
theorem Zmx (n:Nat) (hn:1<=n) (cb B:Nat) (p:GProg) (vp:Value) (w0:World) (h:ProgAt w0 B vp p) (w:World) (hw:Below B w0 w) (hcb:cb<w.heap.size) (hB:B<=w.heap.size) (hc:w.cell? ⟨cb,0,none⟩=some vp):
  SeqStopsK Fence.wide n Tryz.prog 98 #[.pointer (some ⟨cb,0,none⟩)] (Zlo (w0:=w0) (B:=B) (p:=p)) (KpB B cb) (fun xs=>xs.map pj=pts p) (fun pre=>pre.map pj<+:pts p) (pts p).length w:=fun l J Jx W hW hJ _ hY h0=>
 (Zpi n hn l cb B p vp w0 h (fun s W'=>J s W'/\cb<W'.heap.size/\W'.cell? ⟨cb,0,none⟩=some vp) Jx
  (fun s W' o hs=>⟨hJ s W' _ none hs.1 (Lc W' o none) (fun r e=>by cases e),by simp;omega,(Lj (Below.heap_alloc W' o cb hs.2.1)).trans hs.2.2⟩) (fun s W' hs=>hs.2.2)
  (fun pre x W' hs hl=>(hY pre x W' hs.1 hl).mono fun e W'' he=>by
   rcases he with ⟨e1,e2,e3⟩|he
   ·exact .inl ⟨e1,⟨e2,Lm hs.2.1 e3.low.size,(Lj e3.cb).trans hs.2.2⟩,e3.low⟩
   ·exact .inr he) W (hw.trans (hW.mono hB)) (Nat.le_trans hB hW.size) ⟨h0,Lm hcb hW.size,(hW.cell (p:=⟨cb,0,none⟩) hcb).trans hc⟩).mono fun e W' he=>by
  refine⟨he.1,?_⟩
  rcases he.2 with ⟨xs,h1,h2,_⟩|h2
  ·exact .inl ⟨xs,h1,h2⟩
  ·exact .inr h2
end

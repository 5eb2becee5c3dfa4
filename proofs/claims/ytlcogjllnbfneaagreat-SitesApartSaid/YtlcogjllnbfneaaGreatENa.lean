/- Contracts of names. Conditions in it. -/
import Derived.Test.YtlcogjllnbfneaaGreatEBase
import Derived.RangeFuncNested
import Derived.RangeFuncBound
import Derived.RangeFuncCalls
import Derived.RangeFuncLeaves
import Derived.Shelf.RegionOpen
import Derived.OwnWalkIn
import Derived.TacticsInMore
import Derived.LoopNIn
import Derived.LoopIn
import Derived.Deep.QuietTactic
import Derived.BigQuiet
import Derived.StillTailTactics
import Derived.Deep.RegionHeld3
import Derived.Shelf.AbstractIn
set_option maxHeartbeats 4000000
set_option maxRecDepth 100000
set_option linter.all false
namespace Go.Proofs.YtlcogjllnbfneaaGreat
open Lib(hid)
section
open Go.RowKit
def ptC (o:Option (Nat×Nat×Nat)):Array Value:=match o with
 |some (f,b,i)=> #[.int .i64 f,.int .i64 b,.int .i64 i]
 |none=> #[.int .i64 0,.int .i64 0,.int .i64 0]
def ptV (o:Option (Nat×Nat×Nat)):Value:=.tuple #[.agg (ptC o),.bool o.isSome]
theorem Zip (p:GProg) (vp vm:Value) (B wb g:Nat) (lb:Array Value) (w:World) (row:Option Nat) (J:Nat->World->Prop) (q:Nat->Bool) (hB:B<=w.heap.size) (h:WalkAt w B wb p vp vm)
  (hrow:∀ r,row=some r->B<=r/\r<w.heap.size)
  (eg:∀ args w,(callFunc g args).run Tryz.prog w=.ok (.enter g args) w)
  (hJ:∀ k W W',J k W->W.grownBy W' none->J k W') (h0:J 0 w)
  (hp:∀ k (x:GFun) fp fb W,p[k]?=some x->J k W->w.grownBy W row->FunAt W B x fp fb->k<=9223372036854775807->
   Calls Tryz.prog g (#[.int .i64 k,.agg #[.string ⟨x.name.toArray⟩,fp,fb]]++lb) W fun e W'=>e=.returned (.bool (q k))/\J (k+1) W'/\W.grownBy W' row):
  Calls Tryz.prog 158 #[.pointer (some ⟨wb,0,none⟩),.func (.func g) #[] lb] w fun e w'=>e=.returned (ptV (Zq p fun i _=>if q i then some (i,0,0) else none))/\w.grownBy w' row:=by
 obtain⟨A,c,rfl,hm,hlc,hcm,hA⟩:=h.prog.open_;have c0:=h.c0;have hlt:wb<w.heap.size:=by have:=h.lt;omega
 have hne:wb≠w.heap.size:=by omega
 clear h;go_enter Tryz.func158,Tryz.ntmps158;go_wp2;go_loopw [14] (fun s8 wr=>∃ k:Nat,k<=p.length/\s8=.int .i64 k/\Hid ((w.alloc (.cells #[.int .i64 0,.int .i64 0,.int .i64 0] 41)).grownBy wr row)/\Hid (J k wr)/\Hid (∀ j,j<k->∀ y,p[j]?=some y->q j=false)) (fun s8 _=>p.length-(intOf s8).toNat)
 case atStart=>exact⟨0,Ln _,rfl,Lb _ _,hJ 0 w _ h0 (Lc _ _ _),Z2⟩
 case round=>
  obtain⟨k,hkl,rfl,hg,hj,hP⟩:=hrel;have hsz:w.heap.size<wr.heap.size:=by have:=hg.out.size;simp at this;omega
  have hblk:wr.heap[w.heap.size]?=some (.cells #[.int .i64 0,.int .i64 0,.int .i64 0] 41 (0,0)):=
   (hg.out.block _ (by simp) (fun e=>by have:=(hrow _ e.symm).2;omega)).trans (La w _)
  have hA':ProgAt wr B (.slice A p.length c) p:=by
   refine hA.keep funR.keeps fun a ha=>?_
   refine (Lj (hg.out.block a.block (by simp;omega) (fun e=>by have:=(hrow _ e.symm).1;omega))).trans ?_;exact World.cell?_alloc_lt w _ a (by omega)
  by_cases hl:k<p.length
  ·obtain⟨x,b,off,hx,rfl,hbB,fp,fb,hf,e0,e1,e2⟩:=hA'.at_ hl;obtain⟨A1,d1,rfl,m1,n1,o1,_⟩:=hf.params.open_;obtain⟨A2,d2,rfl,m2,n2,o2,_⟩:=hf.bk9.open_;have hgw:w.grownBy wr row:=Zb (Lc w _ row) hg.out;have hcall:=hp k x _ _ (wr.alloc (.cells #[.string ⟨x.name.toArray⟩,.slice A1 x.params.length d1,.slice A2 x.bk9.length d2] 37)) hx (hJ _ _ _ hj.out (Lc _ _ _)) (Zb hgw (Lc _ _ _))
    (hf.keep fun a ha=>World.cell?_alloc_lt wr _ a (by omega)) (by omega)
   have hblk2:(wr.alloc (.cells #[.string ⟨x.name.toArray⟩,.slice A1 x.params.length d1,.slice A2 x.bk9.length d2] 37)).heap[w.heap.size]?=some (.cells #[.int .i64 0,.int .i64 0,.int .i64 0] 41 (0,0)):=
    (Below.heap_alloc wr _ _ hsz).trans hblk
   have hg2:=Zb hg.out (Lc wr (.cells #[.string ⟨x.name.toArray⟩,.slice A1 x.params.length d1,.slice A2 x.bk9.length d2] 37) row);have Hx:=hid hx;have Hb2:=hid hblk2;have Hg2:=hid hg2;clear hx hblk hblk2 hg2 hp hA hA' hgw
   cases hq:q k with
   |true=>
    rw[hq] at hcall;go_wp2_with (go_at_fn g;refine hcall.mono ?_;rintro e w' ⟨rfl,hj',hg'⟩;obtain⟨hb1,hb2⟩:=Za ((hg'.block w.heap.size (by simp;omega) (fun e=>by have:=(hrow _ e.symm).2;omega)).trans Hb2.out));refine bodyPost_ret (v:=ptV (some (k,0,0))) (by simp[results,Tryz.results158,go_sem,ptV,ptC,hb1]) rfl ⟨?_,?_⟩
    ·rw[Zo (fun j hj y hy=>by rw[hP.out j hj y hy];rfl) Hx.out (by rw[if_pos hq])]
    ·exact Zi (Zi (Zi (Zb (Zt Hg2.out) hg') (Lf _) _) (Lf _) _) (Lf _) _
   |false=>
    rw[hq] at hcall;go_wp2_with (go_at_fn g;refine hcall.mono ?_;rintro e w' ⟨rfl,hj',hg'⟩);go_roundw
    case rel=>exact⟨k+1,by omega,by go_num,Zb Hg2.out hg',hj',Zw Hx.out hP.out hq⟩
    case measure=>simp[intOf];omega
  ·obtain⟨hb1,hb2⟩:=Za hblk;go_wp2_with fail;refine bodyPost_ret (v:=ptV none) (by simp[results,Tryz.results158,go_sem,ptV,ptC,hb1]) rfl ⟨?_,?_⟩
   ·rw[Zx (fun j hj y hy=>by rw[hP.out j (by omega) y hy];rfl)]
   ·exact Zi (Zi (Zi (Zt hg.out) (Lf _) _) (Lf _) _) (Lf _) _
end
section
open Go.RowKit Go.Shelf
attribute [local go_sem] Oper.semAt_some
abbrev Pt4 (w0:World) (B:Nat) (p:GProg):Type:={ x:GPt×GIns×Value×Value // InsAt w0 B x.2.1 x.2.2.1 x.2.2.2/\(x.1,x.2.1)∈pts p }
def pj {w0:World} {B:Nat} {p:GProg} (x:Pt4 w0 B p):GPt×GIns:=(x.1.1,x.1.2.1)
def ptA (pt:GPt):Value:=.agg #[.int .i64 pt.1,.int .i64 pt.2.1,.int .i64 pt.2.2]
def Uh (x:GIns) (va vl:Value):Value:=.agg #[.int .u8 x.op,.string ⟨x.dst.toArray⟩,.string ⟨x.a.toArray⟩,.string ⟨x.b.toArray⟩,.int .i64 x.n,.string ⟨x.fn.toArray⟩,va,vl]
def Zlo {w0:World} {B:Nat} {p:GProg} (x:Pt4 w0 B p):Array Value:= #[ptA x.1.1,Uh x.1.2.1 x.1.2.2.1 x.1.2.2.2]
theorem Zrk (n:Nat) (hn:1<=n) (l cb wb B:Nat) (p:GProg) (vp vm:Value) (w0:World) (h:WalkAt w0 B wb p vp vm) (J Jx:List (Pt4 w0 B p)->World->Prop) (hJa:∀ s W o,J s W->J s (W.alloc o))
  (hY:∀ pre x W,J pre W->pre.length<(pts p).length->YieldAt Fence.wide (n-1) Tryz.prog l (Zlo x) W fun e W'=>
   (e=.returned (.bool true)/\J (pre++[x]) W'/\Below B W W')\/(e=.returned (.bool false)/\Jx (pre++[x]) W'))
  (W:World) (hW:Below B w0 W) (hBW:B<=W.heap.size) (hc:W.cell? ⟨cb,0,none⟩=some (.pointer (some ⟨wb,0,none⟩))) (h0:J [] W):
  CallsIn Fence.wide n Tryz.prog 234 #[.func (.yield l) #[] #[],.pointer (some ⟨cb,0,none⟩)] W fun e W'=>(∃ v,e=.returned v)/\
   ((∃ xs,xs.map pj=pts p/\J xs W')\/(∃ pre,pre.map pj<+:pts p/\Jx pre W')):=by
 obtain⟨A,c,rfl,hm,hlc,hcm,hA⟩:=h.prog.open_;have c0:=cur hW h.lt h.c0;have hJs:=hJa;have hYs:=hY;have hJh:=hid hJa;have hYh:=hid hY;clear h hJa hY hJs hYs;refine callsIn_of_wp Tryz.func234 rfl trivial ?_ rfl;simp only[Tryz.ntmps234,List.size_toArray,List.length_cons,List.length_nil,Nat.reduceAdd,Nat.reduceSub,Array.replicate_succ,Array.replicate_zero,List.push_toArray,List.append_toArray,List.nil_append,List.cons_append];gi_wp2;gi_loopw [15] (fun s8 wr=>∃ k:Nat,k<=p.length/\s8=.int .i64 k/\Hid (Below B W wr/\B<=wr.heap.size)/\Hid (∃ xs,xs.map pj=X7 p k/\J xs wr)) (fun s8 _=>p.length-(intOf s8).toNat)
 case atStart=>exact⟨0,Ln _,rfl,⟨Below.refl _ _,hBW⟩,[],by simp[Kf],h0⟩
 case round=>
  obtain⟨k,hkl,rfl,hg,hX⟩:=hrel;have hb:=hW.trans hg.out.1;have hBr:=hg.out.2
  by_cases hl:k<p.length
  ·obtain⟨x,b,off,hx,rfl,hbB,hr⟩:=hA.at_ hl;obtain⟨A1,d1,A2,d2,hf,m1,m2,e0,e1,e2⟩:=Yh hr;have hbne:b≠wr.heap.size:=by omega
   replace e0:=cur hb hbB e0;replace e1:=cur hb hbB e1;replace e2:=cur hb hbB e2;have Hx:=hid hx;have hB2:=hf.bk9;have Hg2:=hid (show Below B W (wr.alloc (.cells #[.string ⟨x.name.toArray⟩,.slice A1 x.params.length d1,.slice A2 x.bk9.length d2] 37))/\B<=(wr.alloc (.cells #[.string ⟨x.name.toArray⟩,.slice A1 x.params.length d1,.slice A2 x.bk9.length d2] 37)).heap.size from ⟨hg.out.1.alloc hBr _,by simp;omega⟩)
   have HX2:=hid (show ∃ xs,xs.map pj=Vj p k x.bk9 0/\J xs (wr.alloc (.cells #[.string ⟨x.name.toArray⟩,.slice A1 x.params.length d1,.slice A2 x.bk9.length d2] 37)) from by
    obtain⟨xs,h1,h2⟩:=hX.out
    exact⟨xs,by rw[h1,Zdz],hJh.out _ _ _ h2⟩)
   clear hx hr hb hf;gi_wp2;obtain⟨wo,hwo⟩:∃ wo:World,wo=wr.alloc (.cells #[.string ⟨x.name.toArray⟩,.slice A1 x.params.length d1,.slice A2 x.bk9.length d2] 37):=⟨_,rfl⟩
   rw[<-hwo] at Hg2 HX2 ⊢;clear hwo e0 e1 e2 hbne hBr;gi_loopw [23] (fun s8 wr=>∃ k2:Nat,k2<=x.bk9.length/\s8=.int .i64 k2/\Hid (Below B W wr/\B<=wr.heap.size)/\Hid (∃ xs,xs.map pj=Vj p k x.bk9 k2/\J xs wr)) (fun s8 _=>x.bk9.length-(intOf s8).toNat)
   case atStart=>exact⟨0,Ln _,rfl,Hg2.out,HX2.out⟩
   case round=>
    obtain⟨k2,hkl2,rfl,hg2,hX2⟩:=hrel;have hb:=hW.trans hg2.out.1;have hBr:=hg2.out.2
    by_cases hl2:k2<x.bk9.length
    ·obtain⟨y,b2,off2,hy,rfl,hbB2,hr2⟩:=hB2.at_ hl2;obtain⟨A3,d3,hf2,m3,e0,e1⟩:=Yg hr2;have hbne2:b2≠wr.heap.size:=by omega
     replace e0:=cur hb hbB2 e0;replace e1:=cur hb hbB2 e1;have Hy:=hid hy;have hB3:=hf2.code;have Hg3:=hid (show Below B W (wr.alloc (.cells #[.string ⟨y.label.toArray⟩,.slice A3 y.code.length d3] 39))/\B<=(wr.alloc (.cells #[.string ⟨y.label.toArray⟩,.slice A3 y.code.length d3] 39)).heap.size from ⟨hg2.out.1.alloc hBr _,by simp;omega⟩)
     have HX3:=hid (show ∃ xs,xs.map pj=Xv p k x.bk9 k2 y.code 0/\J xs (wr.alloc (.cells #[.string ⟨y.label.toArray⟩,.slice A3 y.code.length d3] 39)) from by
      obtain⟨xs,h1,h2⟩:=hX2.out
      exact⟨xs,by rw[h1,Zea],hJh.out _ _ _ h2⟩)
     clear hy hr2 hb hf2;gi_wp2;obtain⟨wo2,hwo2⟩:∃ wo2:World,wo2=wr.alloc (.cells #[.string ⟨y.label.toArray⟩,.slice A3 y.code.length d3] 39):=⟨_,rfl⟩
     rw[<-hwo2] at Hg3 HX3 ⊢;clear hwo2 e0 e1 hbne2 hBr;gi_loopw [31] (fun s8 wr=>∃ k3:Nat,k3<=y.code.length/\s8=.int .i64 k3/\Hid (Below B W wr/\B<=wr.heap.size)/\Hid (∃ xs,xs.map pj=Xv p k x.bk9 k2 y.code k3/\J xs wr)) (fun s8 _=>y.code.length-(intOf s8).toNat)
     case atStart=>exact⟨0,Ln _,rfl,Hg3.out,HX3.out⟩
     case round=>
      obtain⟨k3,hkl3,rfl,hg3,hX3⟩:=hrel;have hb:=hW.trans hg3.out.1;have hBr:=hg3.out.2
      by_cases hl3:k3<y.code.length
      ·obtain⟨z,b3,off3,hz,rfl,hbB3,hr3⟩:=hB3.at_ hl3;obtain⟨A4,d4,A5,d5,hf3,m4,m5,e0,e1,e2,e3,e4,e5,e6,e7⟩:=Yw hr3;have hbne3:b3≠wr.heap.size:=by omega
       replace e0:=cur hb hbB3 e0;replace e1:=cur hb hbB3 e1;replace e2:=cur hb hbB3 e2;replace e3:=cur hb hbB3 e3;replace e4:=cur hb hbB3 e4;replace e5:=cur hb hbB3 e5;replace e6:=cur hb hbB3 e6;replace e7:=cur hb hbB3 e7;obtain⟨xs,hxs,hJx⟩:=hX3.out;obtain⟨q,hq⟩:∃ q:Pt4 w0 B p,q=⟨((k,k2,k3),z,.slice A4 z.args.length d4,.slice A5 z.lb9.length d5),hf3,Zbu Hx.out Hy.out hz⟩:=⟨_,rfl⟩
       have hpq:pj q=((k,k2,k3),z):=by rw[hq];rfl
       have hpre:(xs++[q]).map pj<+:pts p:=by
        rw[List.map_append,hxs,List.map_cons,List.map_nil,hpq];exact Um Hx.out Hy.out hz
       have hlen:xs.length<(pts p).length:=by
        have:=hpre.length_le;simp at this;omega
       obtain⟨fn,tmps,assign,body,hy9,hR⟩:=hYh.out xs q (wr.alloc (.cells #[.int .u8 z.op,.string ⟨z.dst.toArray⟩,.string ⟨z.a.toArray⟩,.string ⟨z.b.toArray⟩,.int .i64 z.n,.string ⟨z.fn.toArray⟩,.slice A4 z.args.length d4,.slice A5 z.lb9.length d5] 25)) (hJh.out _ _ _ hJx) hlen;have he:Zlo q= #[.agg #[.int .i64 k,.int .i64 k2,.int .i64 k3],.agg #[.int .u8 z.op,.string ⟨z.dst.toArray⟩,.string ⟨z.a.toArray⟩,.string ⟨z.b.toArray⟩,.int .i64 z.n,.string ⟨z.fn.toArray⟩,.slice A4 z.args.length d4,.slice A5 z.lb9.length d5]]:=by
        rw[hq];rfl
       rw[he] at hy9;have Hxs:=hid (show (xs++[q]).map pj=Xv p k x.bk9 k2 y.code (k3+1) by rw[List.map_append,hxs,List.map_cons,List.map_nil,hpq,Kg hz]);have Hpre:=hid hpre;clear hz hr3 hf3 hq hpq hpre he hxs hlen hb;gi_wp2;refine hR.mono ?_;rintro e W3 (⟨rfl,hJ3,hk3⟩|⟨rfl,hJx3⟩)
       ·gi_wp2;go_roundw
        case rel=>exact⟨k3+1,by omega,by go_num,⟨(hg3.out.1.alloc hBr _).trans hk3,by have:=hk3.size;simp at this;omega⟩,_,Hxs.out,hJ3⟩
        case measure=>simp[intOf];omega
       ·gi_wp2;refine bodyPost_ret (results_none rfl _ _ _) rfl ?_;exact⟨⟨_,rfl⟩,.inr ⟨_,Hpre.out,hJx3⟩⟩
      ·have HXn:=hid (show ∃ xs,xs.map pj=Vj p k x.bk9 (k2+1)/\J xs wr by
        obtain⟨xs,h1,h2⟩:=hX3.out
        exact⟨xs,by rw[h1,Zdy Hy.out hl3],h2⟩)
       clear hb;gi_wp2;go_roundw
       case rel=>exact⟨k2+1,by omega,by go_num,hg3.out,HXn.out⟩
       case measure=>simp[intOf];omega
    ·have HXn:=hid (show ∃ xs,xs.map pj=X7 p (k+1)/\J xs wr by
      obtain⟨xs,h1,h2⟩:=hX2.out
      exact⟨xs,by rw[h1,Jy Hx.out hl2],h2⟩)
     clear hb;gi_wp2;go_roundw
     case rel=>exact⟨k+1,by omega,by go_num,hg2.out,HXn.out⟩
     case measure=>simp[intOf];omega
  ·clear hb;gi_wp2;go_end0;obtain⟨xs,h1,h2⟩:=hX.out;exact⟨⟨_,rfl⟩,.inl ⟨xs,by rw[h1,Zbb hl],h2⟩⟩
end
section
open Go.RowKit
abbrev z3:Array Value:= #[.int .i64 0,.int .i64 0,.int .i64 0]
theorem Yt {w wr:World} {o:Obj} (h:(w.alloc o).grownBy wr none):Below w.heap.size w wr:=Zk (Zt h)
theorem Xu {w wr:World} {cs:Array Value} {t:TypeId} (h:(w.alloc (.cells cs t)).grownBy wr none):wr.heap[w.heap.size]?=some (.cells cs t (0,0)):=
 (h.block _ (by simp) (by simp)).trans (La w _)
theorem Xc {w wr:World} {o:Obj} (h:(w.alloc o).grownBy wr none):w.heap.size<wr.heap.size:=by have:=h.size;simp at this;omega
theorem Zgh (p:GProg) (vp vm:Value) (B wb:Nat) (w:World) (hB:B<=w.heap.size) (h:WalkAt w B wb p vp vm):
  Calls Tryz.prog 111 #[.pointer (some ⟨wb,0,none⟩)] w fun e w'=>e=.returned (ptV (U7 p))/\w.grownBy w' none:=by
 obtain⟨A,c,rfl,hm,hlc,hcm,hA⟩:=h.prog.open_;have c0:=h.c0;have hlt:wb<w.heap.size:=by have:=h.lt;omega
 have hne:wb≠w.heap.size:=by omega
 clear h;go_enter Tryz.func111,Tryz.ntmps111;go_wp2;go_loopw [16] (fun s8 wr=>∃ k:Nat,k<=p.length/\s8=.int .i64 k/\Hid ((w.alloc (.cells z3 41)).grownBy wr none)/\Hid (∀ j,j<k->∀ y,p[j]?=some y->mpF j y=none)) (fun s8 _=>p.length-(intOf s8).toNat)
 case atStart=>exact⟨0,Ln _,rfl,Lb _ _,Z2⟩
 case round=>
  obtain⟨k,hkl,rfl,hg,hP⟩:=hrel;have hsz:=Xc hg.out;have hne0:w.heap.size≠wr.heap.size:=by omega
  have hblk:=Xu hg.out;have hb:=Yt hg.out
  by_cases hl:k<p.length
  ·obtain⟨x,b,off,hx,rfl,hbB,hr⟩:=hA.at_ hl;obtain⟨A1,d1,A2,d2,hf,m1,m2,e0,e1,e2⟩:=Yh hr;have hb':b<w.heap.size:=by omega
   have hbne:b≠wr.heap.size:=by omega
   replace e0:=cur hb hb' e0;replace e1:=cur hb hb' e1;replace e2:=cur hb hb' e2;have Hx:=hid hx;clear hx hr hb
   by_cases hp8:8<x.params.length
   ·have HF:=hid (show mpF k x=some (k,0,0) by rw[mpF,if_pos hp8]);have hp8':(8:Int)<x.params.length:=by omega
    obtain⟨hb1,hb2⟩:=Za hblk;clear hblk;go_wp2_with fail;refine bodyPost_ret (v:=ptV (some (k,0,0))) (by simp[results,Tryz.results111,go_sem,ptV,ptC,hb1,hsz,hne0]) rfl ⟨?_,?_⟩
    ·rw[U7,Zo hP.out Hx.out HF.out]
    ·repeat (first|exact Zt hg.out|apply Zd|refine Zg ?_ _|refine Zi ?_ (Lf _) _)
   ·have HF:=hid (show mpF k x=Zq x.bk9 (mpB k) by rw[mpF,if_neg hp8]);have hp8':¬ (8:Int)<x.params.length:=by omega
    have Hblk:=hid hblk;clear hblk;go_wp2_with fail;have hblk:=Hblk.out;obtain⟨wo,hwo⟩:∃ wo:World,wo=wr.alloc (.cells #[.string ⟨x.name.toArray⟩,.slice A1 x.params.length d1,.slice A2 x.bk9.length d2] 37):=⟨_,rfl⟩
    rw[<-hwo];have hgo:(w.alloc (.cells z3 41)).grownBy wo none:=by rw[hwo];repeat (first|exact hg.out|apply Zd)
    have Hgo:=hid hgo;have hB2:=hf.bk9;clear hwo hgo e0 e1 e2 hblk hsz hne0 hbne;go_loopw [30] (fun s8 wi=>∃ k2:Nat,k2<=x.bk9.length/\s8=.int .i64 k2/\Hid ((w.alloc (.cells z3 41)).grownBy wi none)/\Hid (∀ j,j<k2->∀ y,x.bk9[j]?=some y->mpB k j y=none)) (fun s8 _=>x.bk9.length-(intOf s8).toNat)
    case atStart=>exact⟨0,Ln _,rfl,Hgo.out,Z2⟩
    case round=>
     obtain⟨k2,hkl2,rfl,hg2,hP2⟩:=hrel;have hsz:=Xc hg2.out;have hne0:w.heap.size≠wr.heap.size:=by omega
     have hblk:=Xu hg2.out;have hb:=Yt hg2.out
     by_cases hl2:k2<x.bk9.length
     ·obtain⟨y,b2,off2,hy,rfl,hbB2,hr2⟩:=hB2.at_ hl2;obtain⟨A3,d3,hf2,m3,e0,e1⟩:=Yg hr2;have hb2':b2<w.heap.size:=by omega
      have hbne2:b2≠wr.heap.size:=by omega
      replace e0:=cur hb hb2' e0;replace e1:=cur hb hb2' e1;have Hy:=hid hy;clear hy hr2 hb;have HB:=hid (show mpB k k2 y=Zq y.code (mpC k k2) from rfl);go_wp2_with fail;obtain⟨wo2,hwo2⟩:∃ wo2:World,wo2=wr.alloc (.cells #[.string ⟨y.label.toArray⟩,.slice A3 y.code.length d3] 39):=⟨_,rfl⟩
      rw[<-hwo2];have hgo2:(w.alloc (.cells z3 41)).grownBy wo2 none:=by rw[hwo2];repeat (first|exact hg2.out|apply Zd)
      have Hgo2:=hid hgo2;have hB3:=hf2.code;clear hwo2 hgo2 e0 e1 hblk hsz hne0 hbne2;go_loopw [38] (fun s8 wi=>∃ k3:Nat,k3<=y.code.length/\s8=.int .i64 k3/\Hid ((w.alloc (.cells z3 41)).grownBy wi none)/\Hid (∀ j,j<k3->∀ z,y.code[j]?=some z->mpC k k2 j z=none)) (fun s8 _=>y.code.length-(intOf s8).toNat)
      case atStart=>exact⟨0,Ln _,rfl,Hgo2.out,Z2⟩
      case round=>
       obtain⟨k3,hkl3,rfl,hg3,hP3⟩:=hrel;have hsz:=Xc hg3.out;have hne0:w.heap.size≠wr.heap.size:=by omega
       have hblk:=Xu hg3.out;have hb:=Yt hg3.out
       by_cases hl3:k3<y.code.length
       ·obtain⟨z,b3,off3,hz,rfl,hbB3,hr3⟩:=hB3.at_ hl3;obtain⟨A4,d4,A5,d5,hf3,m4,m5,e0,e1,e2,e3,e4,e5,e6,e7⟩:=Yw hr3;have hb3':b3<w.heap.size:=by omega
        have hbne3:b3≠wr.heap.size:=by omega
        replace e0:=cur hb hb3' e0;replace e1:=cur hb hb3' e1;replace e2:=cur hb hb3' e2;replace e3:=cur hb hb3' e3;replace e4:=cur hb hb3' e4;replace e5:=cur hb hb3' e5;replace e6:=cur hb hb3' e6;replace e7:=cur hb hb3' e7;have Hz:=hid hz;clear hz hr3 hb;obtain⟨hb1,hb2⟩:=Za hblk;clear hblk;have hop:=hf3.op;have hcl:=fun w'=>Y9 z.op w' hop
        by_cases hq:(Yj z.op&&decide (8<z.args.length))=true
        ·have HC:=hid (show mpC k k2 k3 z=some (k,k2,k3) by rw[mpC,if_pos hq]);have q1:Yj z.op=true:=by simp at hq;exact hq.1
         have q2:(8:Int)<z.args.length:=by simp at hq;omega
         rw[q1] at hcl;clear hq q1;go_wp2_with (go_at_call 161;refine (hcl _).mono ?_;rintro e w' ⟨rfl,rfl⟩);refine bodyPost_ret (v:=ptV (some (k,k2,k3))) (by simp[results,Tryz.results111,go_sem,ptV,ptC,hb1,hsz,hne0]) rfl ⟨?_,?_⟩
         ·rw[U7,Zo hP.out Hx.out (HF.out.trans (Zo hP2.out Hy.out (HB.out.trans (Zo hP3.out Hz.out HC.out))))]
         ·repeat (first|exact Zt hg3.out|apply Zd|refine Zg ?_ _|refine Zi ?_ (Lf _) _)
        ·have HC:=hid (show mpC k k2 k3 z=none by rw[mpC,if_neg hq])
         cases q1:Yj z.op with
         |true=>
          have q2:¬ (8:Int)<z.args.length:=by simp[q1] at hq;omega
          rw[q1] at hcl;clear hq q1;go_wp2_with (go_at_call 161;refine (hcl _).mono ?_;rintro e w' ⟨rfl,rfl⟩);go_roundw
          case rel=>exact⟨k3+1,by omega,by go_num,Zd hg3.out _,Zw Hz.out hP3.out HC.out⟩
          case measure=>simp[intOf];omega
         |false=>
          rw[q1] at hcl;clear hq q1;go_wp2_with (go_at_call 161;refine (hcl _).mono ?_;rintro e w' ⟨rfl,rfl⟩);go_roundw
          case rel=>exact⟨k3+1,by omega,by go_num,Zd hg3.out _,Zw Hz.out hP3.out HC.out⟩
          case measure=>simp[intOf];omega
       ·have HBn:=hid (HB.out.trans (Zx (Z9 hl3 hP3.out)));clear hblk;go_wp2_with fail;go_roundw
        case rel=>exact⟨k2+1,by omega,by go_num,hg3.out,Zw Hy.out hP2.out HBn.out⟩
        case measure=>simp[intOf];omega
     ·have HFn:=hid (HF.out.trans (Zx (Z9 hl2 hP2.out)));clear hblk;go_wp2_with fail;go_roundw
      case rel=>exact⟨k+1,by omega,by go_num,hg2.out,Zw Hx.out hP.out HFn.out⟩
      case measure=>simp[intOf];omega
  ·obtain⟨hb1,hb2⟩:=Za hblk;go_wp2_with fail;refine bodyPost_ret (v:=ptV none) (by simp[results,Tryz.results111,go_sem,ptV,ptC,hb1]) rfl ⟨?_,?_⟩
   ·rw[U7,Zx (Z9 hl hP.out)]
   ·repeat (first|exact Zt hg.out|apply Zd|refine Zg ?_ _|refine Zi ?_ (Lf _) _)
end
section
open Go.RowKit
theorem Zpk {w:World} {r:Nat} {x:Obj} (h:w.heap[r]?=some x) (n:Nat):(w.drewN n).heap[r]?=some x:=h
theorem Znn (p:GProg) (vp vm:Value) (B wb:Nat) (w:World) (hB:B<=w.heap.size) (h:WalkAt w B wb p vp vm):
  Calls Tryz.prog 116 #[.pointer (some ⟨wb,0,none⟩)] w fun e w'=>e=.returned (ptV (Zca p))/\w.grownBy w' none:=by
 obtain⟨A,c,rfl,hm,hlc,hcm,hA⟩:=h.prog.open_;have c0:=h.c0;have hlt:wb<w.heap.size:=by have:=h.lt;omega
 have hne:wb≠w.heap.size:=by omega
 clear h;go_enter Tryz.func116,Tryz.ntmps116;go_wp2;go_loopw [16] (fun s8 wr=>∃ k:Nat,k<=p.length/\s8=.int .i64 k/\Hid ((w.alloc (.cells z3 41)).grownBy wr none)/\Hid (∀ j,j<k->∀ y,p[j]?=some y->beF j y=none)) (fun s8 _=>p.length-(intOf s8).toNat)
 case atStart=>exact⟨0,Ln _,rfl,Lb _ _,Z2⟩
 case round=>
  obtain⟨k,hkl,rfl,hg,hP⟩:=hrel;have hsz:=Xc hg.out;have hne0:w.heap.size≠wr.heap.size:=by omega
  have hblk:=Xu hg.out;have hb:=Yt hg.out
  by_cases hl:k<p.length
  ·obtain⟨x,b,off,hx,rfl,hbB,hr⟩:=hA.at_ hl;obtain⟨A1,d1,A2,d2,hf,m1,m2,e0,e1,e2⟩:=Yh hr;have hb':b<w.heap.size:=by omega
   have hbne:b≠wr.heap.size:=by omega
   replace e0:=cur hb hb' e0;replace e1:=cur hb hb' e1;replace e2:=cur hb hb' e2;have Hx:=hid hx;clear hx hr hb;have HF:=hid (show beF k x=Zq x.bk9 (beB k) from rfl);have Hblk:=hid hblk;clear hblk;go_wp2_with fail;have hblk:=Hblk.out;obtain⟨wo,hwo⟩:∃ wo:World,wo=wr.alloc (.cells #[.string ⟨x.name.toArray⟩,.slice A1 x.params.length d1,.slice A2 x.bk9.length d2] 37):=⟨_,rfl⟩
   rw[<-hwo];have hgo:(w.alloc (.cells z3 41)).grownBy wo none:=by rw[hwo];repeat (first|exact hg.out|apply Zd)
   have Hgo:=hid hgo;have hB2:=hf.bk9;clear hwo hgo e0 e1 e2 hblk hsz hne0 hbne;go_loopw [24] (fun s8 wi=>∃ k2:Nat,k2<=x.bk9.length/\s8=.int .i64 k2/\Hid ((w.alloc (.cells z3 41)).grownBy wi none)/\Hid (∀ j,j<k2->∀ y,x.bk9[j]?=some y->beB k j y=none)) (fun s8 _=>x.bk9.length-(intOf s8).toNat)
   case atStart=>exact⟨0,Ln _,rfl,Hgo.out,Z2⟩
   case round=>
    obtain⟨k2,hkl2,rfl,hg2,hP2⟩:=hrel;have hsz:=Xc hg2.out;have hne0:w.heap.size≠wr.heap.size:=by omega
    have hblk:=Xu hg2.out;have hb:=Yt hg2.out
    by_cases hl2:k2<x.bk9.length
    ·obtain⟨y,b2,off2,hy,rfl,hbB2,hr2⟩:=hB2.at_ hl2;obtain⟨A3,d3,hf2,m3,e0,e1⟩:=Yg hr2;have hb2':b2<w.heap.size:=by omega
     have hbne2:b2≠wr.heap.size:=by omega
     replace e0:=cur hb hb2' e0;replace e1:=cur hb hb2' e1;have Hy:=hid hy;clear hy hr2 hb
     by_cases hn0:y.code.length=0
     ·have HB:=hid (show beB k k2 y=some (k,k2,0) by rw[beB,if_pos hn0]);obtain⟨hb1,hb2⟩:=Za hblk;have hn1:((y.code.length:Int) == 0)=true:=beq_iff_eq.2 (by omega);clear hblk hn0;go_wp2_with fail;refine bodyPost_ret (v:=ptV (some (k,k2,0))) (by simp[results,Tryz.results116,go_sem,ptV,ptC,hb1,hsz,hne0]) rfl ⟨?_,?_⟩
      ·rw[Zca,Zo hP.out Hx.out (HF.out.trans (Zo hP2.out Hy.out HB.out))]
      ·repeat (first|exact Zt hg2.out|apply Zd|refine Zg ?_ _|refine Zi ?_ (Lf _) _)
     ·have HB:=hid (show beB k k2 y=Zq y.code (beC k k2 y.code.length) by rw[beB,if_neg hn0]);have hn1:((y.code.length:Int) == 0)=false:=beq_eq_false_iff_ne.2 (by omega);have Hblk:=hid hblk;clear hblk hn0;go_wp2_with fail;have hblk:=Hblk.out;obtain⟨wo2,hwo2⟩:∃ wo2:World,wo2=wr.alloc (.cells #[.string ⟨y.label.toArray⟩,.slice A3 y.code.length d3] 39):=⟨_,rfl⟩
      rw[<-hwo2];have hgo2:(w.alloc (.cells z3 41)).grownBy wo2 none:=by rw[hwo2];repeat (first|exact hg2.out|apply Zd)
      have Hgo2:=hid hgo2;have hB3:=hf2.code;have hbx:wo2.heap[wr.heap.size]?=some (.cells #[.string ⟨y.label.toArray⟩,.slice A3 y.code.length d3] 39 (0,0)):=by rw[hwo2];exact La wr _
      have Hbx:=hid hbx;clear hbx;obtain⟨g2,hge⟩:∃ g2,g2=wr.heap.size:=⟨_,rfl⟩
      rw[<-hge] at Hbx ⊢;clear hge;clear hwo2 hgo2 e0 e1 hblk hsz hne0 hbne2;go_loopw [39] (fun s8 wi=>∃ k3:Nat,k3<=y.code.length/\s8=.int .i64 k3/\Hid ((w.alloc (.cells z3 41)).grownBy wi none)/\Hid (∀ j,j<k3->∀ z,y.code[j]?=some z->beC k k2 y.code.length j z=none)/\Hid (wi.heap[g2]?=some (.cells #[.string ⟨y.label.toArray⟩,.slice A3 y.code.length d3] 39 (0,0)))) (fun s8 _=>y.code.length-(intOf s8).toNat)
      case atStart=>exact⟨0,Ln _,rfl,Hgo2.out,Z2,Hbx.out⟩
      case round=>
       obtain⟨k3,hkl3,rfl,hg3,hP3,hbx3⟩:=hrel;have hsz:=Xc hg3.out;have hne0:w.heap.size≠wr.heap.size:=by omega
       have hblk:=Xu hg3.out;have hb:=Yt hg3.out
       by_cases hl3:k3<y.code.length
       ·obtain⟨z,b3,off3,hz,rfl,hbB3,hr3⟩:=hB3.at_ hl3;obtain⟨A4,d4,A5,d5,hf3,m4,m5,e0,e1,e2,e3,e4,e5,e6,e7⟩:=Yw hr3;have hb3':b3<w.heap.size:=by omega
        have hbne3:b3≠wr.heap.size:=by omega
        replace e0:=cur hb hb3' e0;replace e1:=cur hb hb3' e1;replace e2:=cur hb hb3' e2;replace e3:=cur hb hb3' e3;replace e4:=cur hb hb3' e4;replace e5:=cur hb hb3' e5;replace e6:=cur hb hb3' e6;replace e7:=cur hb hb3' e7;have Hz:=hid hz;clear hz hr3 hb;obtain⟨hb1,hb2⟩:=Za hblk;obtain⟨hx1,hx2⟩:=Za hbx3.out;have hgl:=Ze hbx3.out;have hgn:g2≠wr.heap.size:=by omega
        clear hblk;have hop:=hf3.op;have hcl:=fun w'=>Zug z.op w' hop
        by_cases hq:(Up z.op != (decide (k3+1=y.code.length)))=true
        ·have HC:=hid (show beC k k2 y.code.length k3 z=some (k,k2,k3) by rw[beC,if_pos hq])
         cases q1:Up z.op
         all_goals
          have q2:((k3:Int) == (y.code.length:Int)-1)= !(Up z.op):=by
           rw[q1] at hq ⊢;simp at hq ⊢;omega
          rw[q1] at hcl q2;clear hq q1;simp only[Bool.not_true,Bool.not_false] at q2;go_wp2_with fail;go_quiet ((go_at_call 166;exact Calls.quiet_of_same ((hcl _).mono fun e w' h=>⟨h.1,h.2.symm⟩)));go_wp2;refine bodyPost_ret (v:=ptV (some (k,k2,k3))) (by simp[results,Tryz.results116,go_sem,ptV,ptC,hb1,hsz,hne0]) rfl ⟨?_,?_⟩
          ·rw[Zca,Zo hP.out Hx.out (HF.out.trans (Zo hP2.out Hy.out (HB.out.trans (Zo hP3.out Hz.out HC.out))))]
          ·repeat (first|exact Zt hg3.out|apply Zd|refine Zg ?_ _|refine Zi ?_ (Lf _) _)
        ·have HC:=hid (show beC k k2 y.code.length k3 z=none by rw[beC,if_neg hq])
         cases q1:Up z.op
         all_goals
          have q2:((k3:Int) == (y.code.length:Int)-1)=(Up z.op):=by
           rw[q1] at hq ⊢;simp at hq ⊢;omega
          rw[q1] at hcl q2;clear hq q1;go_wp2_with fail;go_quiet ((go_at_call 166;exact Calls.quiet_of_same ((hcl _).mono fun e w' h=>⟨h.1,h.2.symm⟩)));go_wp2;go_roundw
          case rel=>exact⟨k3+1,by omega,by go_num,Zg (Zd hg3.out _) _,Zw Hz.out hP3.out HC.out,Zpk (Zc hbx3.out _) _⟩
          case measure=>simp[intOf];omega
       ·have HBn:=hid (HB.out.trans (Zx (Z9 hl3 hP3.out)));clear hblk;go_wp2_with fail;go_roundw
        case rel=>exact⟨k2+1,by omega,by go_num,hg3.out,Zw Hy.out hP2.out HBn.out⟩
        case measure=>simp[intOf];omega
    ·have HFn:=hid (HF.out.trans (Zx (Z9 hl2 hP2.out)));clear hblk;go_wp2_with fail;go_roundw
     case rel=>exact⟨k+1,by omega,by go_num,hg2.out,Zw Hx.out hP.out HFn.out⟩
     case measure=>simp[intOf];omega
  ·obtain⟨hb1,hb2⟩:=Za hblk;go_wp2_with fail;refine bodyPost_ret (v:=ptV none) (by simp[results,Tryz.results116,go_sem,ptV,ptC,hb1]) rfl ⟨?_,?_⟩
   ·rw[Zca,Zx (Z9 hl hP.out)]
   ·repeat (first|exact Zt hg.out|apply Zd|refine Zg ?_ _|refine Zi ?_ (Lf _) _)
theorem Kr {α β:Type} {f:α->β} {l:List α} {k:Nat} {x:α} (h:l[k]?=some x):(l.take (k+1)).map f=(l.take k).map f++[f x]:=by
 rw[List.take_add_one,h];simp
theorem Zhb (p:GProg) (vp vm:Value) (B wb:Nat) (w:World) (hB:B<=w.heap.size) (h:WalkAt w B wb p vp vm):
  Calls Tryz.prog 113 #[.pointer (some ⟨wb,0,none⟩)] w fun e w'=>e=.returned (ptV (U8 p))/\w.grownBy w' none:=by
 obtain⟨A,c,rfl,hm,hlc,hcm,hA⟩:=h.prog.open_;have c0:=h.c0;have hlt:wb<w.heap.size:=by have:=h.lt;omega
 have hne:wb≠w.heap.size:=by omega
 clear h;go_enter Tryz.func113,Tryz.ntmps113;go_wp2;go_loopw [15] (fun s8 wr=>∃ k:Nat,k<=p.length/\s8=.int .i64 k/\Hid ((w.alloc (.cells z3 41)).grownBy wr none)/\Hid (∀ j,j<k->∀ y,p[j]?=some y->tlF j y=none)) (fun s8 _=>p.length-(intOf s8).toNat)
 case atStart=>exact⟨0,Ln _,rfl,Lb _ _,Z2⟩
 case round=>
  obtain⟨k,hkl,rfl,hg,hP⟩:=hrel;have hsz:=Xc hg.out;have hne0:w.heap.size≠wr.heap.size:=by omega
  have hblk:=Xu hg.out;have hb:=Yt hg.out
  by_cases hl:k<p.length
  ·obtain⟨x,b,off,hx,rfl,hbB,hr⟩:=hA.at_ hl;obtain⟨A1,d1,A2,d2,hf,m1,m2,e0,e1,e2⟩:=Yh hr;have hb':b<w.heap.size:=by omega
   have hbne:b≠wr.heap.size:=by omega
   replace e0:=cur hb hb' e0;replace e1:=cur hb hb' e1;replace e2:=cur hb hb' e2;have Hx:=hid hx;clear hx hr hb;have HF:=hid (show tlF k x=Zq x.bk9 (tlB k x.bk9) from rfl);have Hblk:=hid hblk;clear hblk;have hmm:=Kh;go_wp2_with fail;have hblk:=Hblk.out;clear hmm;obtain⟨r,hr⟩:∃ r,r=wr.heap.size+1:=⟨_,rfl⟩
   rw[<-hr];have hrs:w.heap.size<r:=by omega
   have hsn:((wr.alloc (.cells #[.string ⟨x.name.toArray⟩,.slice A1 x.params.length d1,.slice A2 x.bk9.length d2] 37)).alloc (Ye [])).heap[r]?=some (Ye []):=by
    have:=La (wr.alloc (.cells #[.string ⟨x.name.toArray⟩,.slice A1 x.params.length d1,.slice A2 x.bk9.length d2] 37)) (Ye []);rw[hr];simpa using this
   obtain⟨wo,hwo⟩:∃ wo:World,wo=(wr.alloc (.cells #[.string ⟨x.name.toArray⟩,.slice A1 x.params.length d1,.slice A2 x.bk9.length d2] 37)).alloc (Ye []):=⟨_,rfl⟩
   rw[<-hwo];have hgo:(w.alloc (.cells z3 41)).grownBy wo none:=by rw[hwo];repeat (first|exact hg.out|apply Zd)
   have Hgo:=hid hgo;have hB2:=hf.bk9;rw[<-hwo] at hsn;have Hsn:=hid hsn;clear hsn hr;clear hwo hgo e0 e1 e2 hblk hsz hne0 hbne;go_loopw [24] (fun s8 wi=>∃ k2:Nat,k2<=x.bk9.length/\s8=.int .i64 k2/\Hid ((w.alloc (.cells z3 41)).grownBy wi none)/\Hid (∀ j,j<k2->∀ y,x.bk9[j]?=some y->tlB k x.bk9 j y=none)/\Hid (wi.heap[r]?=some (Ye ((x.bk9.take k2).map (·.label))))) (fun s8 _=>x.bk9.length-(intOf s8).toNat)
   case atStart=>exact⟨0,Ln _,rfl,Hgo.out,Z2,Hsn.out⟩
   case round=>
    obtain⟨k2,hkl2,rfl,hg2,hP2,hs2⟩:=hrel;have hsz:=Xc hg2.out;have hne0:w.heap.size≠wr.heap.size:=by omega
    have hblk:=Xu hg2.out;have hb:=Yt hg2.out
    by_cases hl2:k2<x.bk9.length
    ·obtain⟨y,b2,off2,hy,rfl,hbB2,hr2⟩:=hB2.at_ hl2;obtain⟨A3,d3,hf2,m3,e0,e1⟩:=Yg hr2;have hb2':b2<w.heap.size:=by omega
     have hbne2:b2≠wr.heap.size:=by omega
     replace e0:=cur hb hb2' e0;replace e1:=cur hb hb2' e1;have Hy:=hid hy;clear hy hr2 hb;obtain⟨hb1,hb2⟩:=Za hblk;clear hblk;have hlk:=fun o=>J3 (Zc hs2.out o) y.label
     have hlt2:=Ze hs2.out;have hrne:r≠wr.heap.size:=by omega
     cases hq:((x.bk9.take k2).map (·.label)).contains y.label with
     |true=>
      have HB:=hid (show tlB k x.bk9 k2 y=some (k,k2,0) by rw[tlB,if_pos hq]);rw[hq] at hlk;clear hq;go_wp2_with fail;refine bodyPost_ret (v:=ptV (some (k,k2,0))) (by simp[results,Tryz.results113,go_sem,ptV,ptC,hb1,hsz,hne0]) rfl ⟨?_,?_⟩
      ·rw[U8,Zo hP.out Hx.out (HF.out.trans (Zo hP2.out Hy.out HB.out))]
      ·repeat (first|exact Zt hg2.out|apply Zd|refine Zg ?_ _|refine Zi ?_ (Lf _) _)
     |false=>
      have HB:=hid (show tlB k x.bk9 k2 y=none by rw[tlB,if_neg (by rw[hq];simp)]);rw[hq] at hlk;clear hq;go_wp2_with (at_mapUpdate;refine V6 rfl _ _ _ (.inl rfl) r ((x.bk9.take k2).map (·.label)) rfl (Zc hs2.out _) y.label rfl rfl ?_;intro w1 ht1 hs1);go_roundw
      case rel=>exact⟨k2+1,by omega,by go_num,ht1.grown (Zd hg2.out _) (by simp;omega),Zw Hy.out hP2.out HB.out,by rw[Kr Hy.out];exact hs1⟩
      case measure=>simp[intOf];omega
    ·have HFn:=hid (HF.out.trans (Zx (Z9 hl2 hP2.out)));clear hblk;go_wp2_with fail;go_roundw
     case rel=>exact⟨k+1,by omega,by go_num,hg2.out,Zw Hx.out hP.out HFn.out⟩
     case measure=>simp[intOf];omega
  ·obtain⟨hb1,hb2⟩:=Za hblk;go_wp2_with fail;refine bodyPost_ret (v:=ptV none) (by simp[results,Tryz.results113,go_sem,ptV,ptC,hb1]) rfl ⟨?_,?_⟩
   ·rw[U8,Zx (Z9 hl hP.out)]
   ·repeat (first|exact Zt hg.out|apply Zd|refine Zg ?_ _|refine Zi ?_ (Lf _) _)
end
section
open Go.RowKit
theorem Zjz (k:Nat) (x:GFun) (B:Nat) (vp vb:Value) (w:World) (hf:FunAt w B x vp vb):
  Calls Tryz.prog 162 #[.int .i64 k,.agg #[.string ⟨x.name.toArray⟩,vp,vb]] w fun e w'=>e=.returned (.bool (decide (x.bk9.length=0\/64<x.bk9.length)))/\w.grownBy w' none:=by
 obtain⟨A1,d1,rfl,m1,n1,o1,_⟩:=hf.params.open_;obtain⟨A2,d2,rfl,m2,n2,o2,_⟩:=hf.bk9.open_;clear hf
 by_cases h1:x.bk9.length=0
 ·have e1:((x.bk9.length:Int) == 0)=true:=beq_iff_eq.2 (by omega);have H1:=hid h1;clear h1;go_enter Tryz.func162,Tryz.ntmps162;go_wp2;go_ret;exact⟨by simp[H1.out],Lc _ _ _⟩
 ·have e1:((x.bk9.length:Int) == 0)=false:=beq_eq_false_iff_ne.2 (by omega);go_enter Tryz.func162,Tryz.ntmps162;go_wp2;go_ret;refine⟨(show Ending.returned (Value.bool (decide (64<(x.bk9.length:Int))))=_ from ?_),Lc _ _ _⟩
  congr 2
  rw[Bool.eq_iff_iff];simp only[decide_eq_true_eq];omega
theorem Zae:∀ args w,(callFunc 162 args).run Tryz.prog w=.ok (.enter 162 args) w:=enters_of Tryz.func162 (by kernel_rfl) rfl
theorem Kl {α β:Type} {l:List α} {g h:Nat->α->Option β} (e:∀ k x,l[k]?=some x->g k x=h k x):Zq l g=Zq l h:=by
 have key:∀ (l:List α) (k:Nat),(∀ j x,l[j]?=some x->g (k+j) x=h (k+j) x)->Y2 g k l=Y2 h k l:=by
  intro l
  induction l with
  |nil=>intro k _;rfl
  |cons x l ih=>
   intro k e;have e0:=e 0 x rfl;simp only[Nat.add_zero] at e0;simp only[Y2,e0];rw[ih (k+1) (fun j y hj=>by have:=e (j+1) y (by simpa using hj);rwa [show k+(j+1)=k+1+j by omega] at this)]
 exact key l 0 fun j x hx=>by rw[Nat.zero_add];exact e j x hx
theorem Zgg (p:GProg) (vp vm:Value) (B wb:Nat) (w:World) (hB:B<=w.heap.size) (h:WalkAt w B wb p vp vm):
  Calls Tryz.prog 112 #[.pointer (some ⟨wb,0,none⟩)] w fun e w'=>e=.returned (ptV (U6 p))/\w.grownBy w' none:=by
 have hb0:Below w.heap.size w (w.alloc (.cells z3 41)):=(Below.refl w.heap.size w).alloc (Lf _) _;have hc:=Zip p vp vm B wb 162 #[] (w.alloc (.cells z3 41)) none (fun _ _=>True) (fun k=>(p[k]?).any fun x=>decide (x.bk9.length=0\/64<x.bk9.length)) (by simp;omega) (h.below hb0 hB)
  (fun r e=>by cases e) Zae (fun _ _ _ _ _=>trivial) trivial
  (fun k x fp fb W hx _ _ hf _=>by rw[hx];exact (Zjz k x B fp fb W hf).mono fun e W' ⟨he,hg⟩=>⟨he,trivial,hg⟩)
 rw[show Zq p (fun i _=>if ((p[i]?).any fun x=>decide (x.bk9.length=0\/64<x.bk9.length))=true then some (i,0,0) else none)=U6 p from
  Kl fun k x hx=>by rw[hx];simp] at hc
 have hlt:wb<w.heap.size:=by have:=h.lt;omega
 clear h;obtain⟨r,hr⟩:∃ r,r=U6 p:=⟨_,rfl⟩
 rw[<-hr] at hc ⊢;clear hr
 cases r with
 |none=>
  change Calls _ _ _ _ (fun e w'=>e=.returned (.tuple #[.agg #[.int .i64 0,.int .i64 0,.int .i64 0],.bool false])/\_) at hc;go_enter Tryz.func112,Tryz.ntmps112;go_wp2_with (go_at_call 158;refine hc.mono ?_;rintro e w1 ⟨rfl,hg1⟩;obtain⟨hb1,hb2⟩:=Za (Xu hg1));refine bodyPost_ret (v:=ptV none) (by simp[results,Tryz.results112,go_sem,ptV,ptC,hb1]) rfl ⟨rfl,?_⟩
  repeat (first|exact Zt hg1|refine Zi ?_ (Lf _) _)
 |some q=>
  obtain⟨a,b,c⟩:=q;change Calls _ _ _ _ (fun e w'=>e=.returned (.tuple #[.agg #[.int .i64 a,.int .i64 b,.int .i64 c],.bool true])/\_) at hc;go_enter Tryz.func112,Tryz.ntmps112;go_wp2_with (go_at_call 158;refine hc.mono ?_;rintro e w1 ⟨rfl,hg1⟩;obtain⟨hb1,hb2⟩:=Za (Xu hg1));refine bodyPost_ret (v:=ptV (some (a,b,c))) (by simp[results,Tryz.results112,go_sem,ptV,ptC,hb1]) rfl ⟨rfl,?_⟩
  repeat (first|exact Zt hg1|refine Zi ?_ (Lf _) _)
theorem Zne (l:List Str) (k:Nat) (x:GFun) (B mb r:Nat) (vp vb:Value) (w:World) (hf:FunAt w B x vp vb) (hc:w.cell? ⟨mb,0,none⟩=some (.map (some r))) (hr:w.heap[r]?=some (Ye l)) (hmr:mb≠r):
  Calls Tryz.prog 159 #[.int .i64 k,.agg #[.string ⟨x.name.toArray⟩,vp,vb],.pointer (some ⟨mb,0,none⟩)] w fun e w'=>
   e=.returned (.bool (l.contains x.name))/\w'.heap[r]?=some (Ye (l++[x.name]))/\w.grownBy w' (some r):=by
 obtain⟨A1,d1,rfl,m1,n1,o1,_⟩:=hf.params.open_;obtain⟨A2,d2,rfl,m2,n2,o2,_⟩:=hf.bk9.open_;clear hf;have hlk:=fun o=>J3 (Zc hr o) x.name
 have hrl:=Ze hr;have hrn:r≠w.heap.size:=by omega
 have hml:mb<w.heap.size:=by
  rcases Nat.lt_or_ge mb w.heap.size with h|h
  ·exact h
  ·simp[World.cell?,Array.getElem?_eq_none h] at hc
 have hmn:mb≠w.heap.size:=by omega
 have Hr:=hid hr;obtain⟨q,hq⟩:∃ q,q=l.contains x.name:=⟨_,rfl⟩
 rw[<-hq] at hlk ⊢;clear hr hq;go_enter Tryz.func159,Tryz.ntmps159;go_wp2_with (at_mapUpdate;refine V6 rfl _ _ _ (.inl rfl) r l rfl (Zc Hr.out _) x.name rfl rfl ?_;intro w1 ht1 hs1);go_ret;exact⟨rfl,hs1,ht1.grownRow (Lc w _ _)⟩
theorem Zau:∀ args w,(callFunc 159 args).run Tryz.prog w=.ok (.enter 159 args) w:=enters_of Tryz.func159 (by kernel_rfl) rfl
theorem Zbq {w w0 w':World} {r:Nat} (h:w.grownBy w0 none) (hg:w0.grownBy w' (some r)) (hr:w.heap.size<=r):w.grownBy w' none:=
 ⟨hg.os.trans h.os,hg.tape.trans h.tape,hg.output.trans h.output,Nat.le_trans h.size hg.size,fun k hk _=>(hg.block k (Lm hk h.size) (by simp;omega)).trans (h.block k hk (by simp))⟩
theorem Zia (p:GProg) (vp vm:Value) (B wb:Nat) (w:World) (hB:B<=w.heap.size) (h:WalkAt w B wb p vp vm):
  Calls Tryz.prog 109 #[.pointer (some ⟨wb,0,none⟩)] w fun e w'=>e=.returned (ptV (Q8 p))/\w.grownBy w' none:=by
 obtain⟨w0,hw0⟩:∃ w0:World,w0=((w.alloc (.cells z3 41)).alloc (Ye [])).alloc (.cells #[.map (some (w.heap.size+1))] 213):=⟨_,rfl⟩
 have hb0:Below w.heap.size w w0:=by rw[hw0];exact (((Below.refl w.heap.size w).alloc (Lf _) _).alloc (by simp) _).alloc (by simp;omega) _
 have hsz0:w0.heap.size=w.heap.size+3:=by rw[hw0];simp
 have hr0:w0.heap[w.heap.size+1]?=some (Ye []):=by
  have:=La (w.alloc (.cells z3 41)) (Ye []);rw[hw0];refine Zc ?_ _;simpa using this
 have hm0:w0.heap[w.heap.size+1+1]?=some (.cells #[.map (some (w.heap.size+1))] 213 (0,0)):=by
  have:=La ((w.alloc (.cells z3 41)).alloc (Ye [])) (.cells #[.map (some (w.heap.size+1))] 213);rw[hw0];simpa using this
 have hz0:w0.heap[w.heap.size]?=some (.cells z3 41 (0,0)):=by rw[hw0];exact Zc (Zc (La w _) _) _
 have hc:=Zip p vp vm B wb 159 #[.pointer (some ⟨w.heap.size+1+1,0,none⟩)] w0 (some (w.heap.size+1))
  (fun k W=>W.heap[w.heap.size+1]?=some (Ye ((p.take k).map (·.name)))/\W.heap[w.heap.size+1+1]?=some (.cells #[.map (some (w.heap.size+1))] 213 (0,0)))
  (fun k=>(p[k]?).any fun x=>((p.take k).map (·.name)).contains x.name) (by omega) (h.below hb0 hB)
  (fun r e=>by cases e;omega) Zau
  (fun k W W' ⟨h1,h2⟩ hg=>⟨(hg.block _ (Ze h1) (by simp)).trans h1,(hg.block _ (Ze h2) (by simp)).trans h2⟩) ⟨hr0,hm0⟩
  (fun k x fp fb W hx ⟨h1,h2⟩ _ hf _=>by
   rw[hx]
   refine (Zne _ k x B (w.heap.size+1+1) (w.heap.size+1) fp fb W hf ((Za h2).1 0) h1 (by omega)).mono fun e W' ⟨he,hs,hg⟩=>⟨he,⟨by rw[Kr hx];exact hs,?_⟩,hg⟩
   exact (hg.block _ (Ze h2) (by simp)).trans h2)
 rw[show Zq p (fun i _=>if ((p[i]?).any fun x=>((p.take i).map (·.name)).contains x.name)=true then some (i,0,0) else none)=Q8 p from
  Kl fun k x hx=>by rw[hx];rfl] at hc
 have hlt:wb<w.heap.size:=by have:=h.lt;omega
 have hgw:∀ w1,w0.grownBy w1 (some (w.heap.size+1))->w1.heap[w.heap.size]?=some (.cells z3 41 (0,0))/\w.grownBy w1 none:=fun w1 hg1=>
  ⟨(hg1.block _ (by omega) (by simp)).trans hz0,Zbq (Zj hb0) hg1 (by omega)⟩
 rw[hw0] at hc;have hmm:=Kh;have Hgw:=hid hgw;rw[hw0] at Hgw;clear h hgw hz0 hm0 hr0 hb0 hsz0 hw0;obtain⟨r,hr⟩:∃ r,r=Q8 p:=⟨_,rfl⟩
 rw[<-hr] at hc ⊢;clear hr
 cases r with
 |none=>
  change Calls _ _ _ _ (fun e w'=>e=.returned (.tuple #[.agg #[.int .i64 0,.int .i64 0,.int .i64 0],.bool false])/\_) at hc;go_enter Tryz.func109,Tryz.ntmps109;go_wp2_with (go_at_call 158;refine hc.mono ?_;rintro e w1 ⟨rfl,hg1⟩;obtain⟨hb1,hb2⟩:=Za (Hgw.out w1 hg1).1);refine bodyPost_ret (v:=ptV none) (by simp[results,Tryz.results109,go_sem,ptV,ptC,hb1]) rfl ⟨rfl,?_⟩
  repeat (first|exact (Hgw.out w1 hg1).2|refine Zi ?_ (Lf _) _)
 |some q=>
  obtain⟨a,b,c⟩:=q;change Calls _ _ _ _ (fun e w'=>e=.returned (.tuple #[.agg #[.int .i64 a,.int .i64 b,.int .i64 c],.bool true])/\_) at hc;go_enter Tryz.func109,Tryz.ntmps109;go_wp2_with (go_at_call 158;refine hc.mono ?_;rintro e w1 ⟨rfl,hg1⟩;obtain⟨hb1,hb2⟩:=Za (Hgw.out w1 hg1).1);refine bodyPost_ret (v:=ptV (some (a,b,c))) (by simp[results,Tryz.results109,go_sem,ptV,ptC,hb1]) rfl ⟨rfl,?_⟩
  repeat (first|exact (Hgw.out w1 hg1).2|refine Zi ?_ (Lf _) _)
theorem Zoy (p:GProg) (vp vm:Value) (B wb:Nat) (w:World) (hB:B<=w.heap.size) (h:WalkAt w B wb p vp vm):
  Calls Tryz.prog 110 #[.pointer (some ⟨wb,0,none⟩)] w fun e w'=>e=.returned (ptV (U1 p))/\w.grownBy w' none:=by
 obtain⟨w0,hw0⟩:∃ w0:World,w0=w.alloc (.cells z3 41):=⟨_,rfl⟩
 have hb0:Below w.heap.size w w0:=by rw[hw0];exact (Below.refl w.heap.size w).alloc (Lf _) _
 have hsz0:w0.heap.size=w.heap.size+1:=by rw[hw0];simp
 have hz0:w0.heap[w.heap.size]?=some (.cells z3 41 (0,0)):=by rw[hw0];exact La w _
 have hc:=Zcv p vp vm Yhm B wb w0 (by omega) (h.below hb0 hB) (by simp[Yhm]);have hgw:∀ w1,Below w0.heap.size w0 w1->w1.heap[w.heap.size]?=some (.cells z3 41 (0,0))/\w.grownBy w1 none/\WalkAt w1 B wb p vp vm/\w.heap.size<w1.heap.size:=fun w1 hg1=>
  ⟨(hg1.block _ (by omega)).trans hz0,Zb (Zj hb0) (Zj hg1),(h.below hb0 hB).below hg1 (by omega),by have:=hg1.size;omega⟩
 have hlt:wb<w.heap.size:=by have:=h.lt;omega
 rw[hw0] at hc hgw;simp only[World.size_alloc] at hgw;have Hgw:=hid hgw;clear h hgw hz0 hb0 hsz0 hw0;simp only[Yhm] at hc;have hn:Xq p Yhm=match p.findIdx? (fun f=>f.name == Yhm) with|some i=>(i:Int)|none=> -1:=rfl
 unfold Yhm at hn
 cases hm:p.findIdx? (fun f=>f.name == Yhm) with
 |none=>
  unfold Yhm at hm;rw[hm] at hn;rw[hn] at hc;have Hr:=hid (show U1 p=some (0,0,0) by simp only[U1,Yhm,hm]);clear hm hn;go_enter Tryz.func110,Tryz.ntmps110;go_wp2_with (go_at_call 160;refine hc.mono ?_;rintro e w1 ⟨rfl,hg1⟩;obtain⟨hb1,hb2⟩:=Za (Hgw.out w1 (by simpa using hg1)).1);refine bodyPost_ret (v:=ptV (some (0,0,0))) (by simp[results,Tryz.results110,go_sem,ptV,ptC,hb1]) rfl ⟨by rw[Hr.out],?_⟩
  repeat (first|exact (Hgw.out w1 (by simpa using hg1)).2.1|refine Zi ?_ (Lf _) _)
 |some m=>
  have hml:m<p.length:=by
   rw[List.findIdx?_eq_some_iff_getElem] at hm;exact hm.1
  unfold Yhm at hm;rw[hm] at hn;rw[hn] at hc;have hpx:∀ x,p[m]?=some x->x=p[m]:=fun x hx=>by rw[List.getElem?_eq_getElem hml] at hx;injection hx with hx;exact hx.symm
  have Hpx:=hid hpx;clear hpx
  by_cases hpos:0<p[m].params.length
  ·have Hr:=hid (show U1 p=some (m,0,0) by simp only[U1,Yhm,hm,List.getElem?_eq_getElem hml,Option.map_some,Option.getD_some,if_pos hpos]);have Hpos:=hid hpos;clear hm hn hpos;go_enter Tryz.func110,Tryz.ntmps110;go_wp2_with (go_at_call 160;refine hc.mono ?_;rintro e w1 ⟨rfl,hg1⟩;obtain⟨hz1,hgq,hwq,hlq⟩:=Hgw.out w1 (by simpa using hg1);obtain⟨hb1,hb2⟩:=Za hz1;obtain⟨A,c,hve,hmx,hlc,hcm,hA⟩:=hwq.prog.open_;obtain⟨x,b,off,hx,rfl,hbB,hr⟩:=hA.at_ hml;obtain⟨A1,d1,A2,d2,hf,m1,m2,e0,e1,e2⟩:=Yh hr;have c0:=hwq.c0;rw[hve] at c0;have hml':(m:Int)<(p.length:Int):=(by omega);have hps:0<x.params.length:=(by rw[Hpx.out x hx];exact Hpos.out);clear hx);refine bodyPost_ret (v:=ptV (some (m,0,0))) (by simp[results,Tryz.results110,go_sem,ptV,ptC,hb1]) rfl ⟨by rw[Hr.out],?_⟩
   repeat (first|exact hgq|refine Zi ?_ (Lf _) _)
  ·have Hr:=hid (show U1 p=none by simp only[U1,Yhm,hm,List.getElem?_eq_getElem hml,Option.map_some,Option.getD_some,if_neg hpos]);have Hpos:=hid hpos;clear hm hn hpos;go_enter Tryz.func110,Tryz.ntmps110;go_wp2_with (go_at_call 160;refine hc.mono ?_;rintro e w1 ⟨rfl,hg1⟩;obtain⟨hz1,hgq,hwq,hlq⟩:=Hgw.out w1 (by simpa using hg1);obtain⟨hb1,hb2⟩:=Za hz1;obtain⟨A,c,hve,hmx,hlc,hcm,hA⟩:=hwq.prog.open_;obtain⟨x,b,off,hx,rfl,hbB,hr⟩:=hA.at_ hml;obtain⟨A1,d1,A2,d2,hf,m1,m2,e0,e1,e2⟩:=Yh hr;have c0:=hwq.c0;rw[hve] at c0;have hml':(m:Int)<(p.length:Int):=(by omega);have hps:¬ 0<x.params.length:=(by rw[Hpx.out x hx];exact Hpos.out);clear hx);refine bodyPost_ret (v:=ptV none) (by simp[results,Tryz.results110,go_sem,ptV,ptC,hb1]) rfl ⟨by rw[Hr.out],?_⟩
   repeat (first|exact hgq|refine Zi ?_ (Lf _) _)
theorem Zhx (p:GProg) (vp vm:Value) (B wb:Nat) (w:World) (hB:B<=w.heap.size) (h:WalkAt w B wb p vp vm):
  Calls Tryz.prog 107 #[.pointer (some ⟨wb,0,none⟩)] w fun e w'=>e=.returned (ptV (X8 p))/\w.grownBy w' none:=by
 obtain⟨A,c,rfl,hm,hlc,hcm,hA⟩:=h.prog.open_;have c0:=h.c0;have hlt:wb<w.heap.size:=by have:=h.lt;omega
 have hne:wb≠w.heap.size:=by omega
 clear h hA
 by_cases h1:p.length=0
 ·have e1:((p.length:Int) == 0)=true:=beq_iff_eq.2 (by omega);have Hr:=hid (show X8 p=some (0,0,0) by rw[X8,if_pos (.inl h1)]);clear h1;go_enter Tryz.func107,Tryz.ntmps107;go_wp2;go_region
  all_goals
   go_wp2;refine bodyPost_ret (v:=ptV (some (0,0,0))) (by simp[results,Tryz.results107,go_sem,ptV,ptC]<;>omega) rfl ⟨by rw[Hr.out],?_⟩
   repeat (first|exact Lb _ _|refine Zg ?_ _|refine Zf ?_|apply Zd|refine Zi ?_ (Lf _) _)
 ·have e1:((p.length:Int) == 0)=false:=beq_eq_false_iff_ne.2 (by omega)
  by_cases h2:64<p.length
  ·have e2:(64:Int)<p.length:=by omega
   have Hr:=hid (show X8 p=some (0,0,0) by rw[X8,if_pos (.inr h2)]);go_enter Tryz.func107,Tryz.ntmps107;go_wp2;go_region
   all_goals
    go_wp2;refine bodyPost_ret (v:=ptV (some (0,0,0))) (by simp[results,Tryz.results107,go_sem,ptV,ptC]<;>omega) rfl ⟨by rw[Hr.out],?_⟩
    repeat (first|exact Lb _ _|refine Zg ?_ _|refine Zf ?_|apply Zd|refine Zi ?_ (Lf _) _)
  ·have e2:¬ (64:Int)<p.length:=by omega
   have Hr:=hid (show X8 p=none by rw[X8,if_neg (by omega)]);go_enter Tryz.func107,Tryz.ntmps107;go_wp2;go_region
   all_goals
    go_wp2;refine bodyPost_ret (v:=ptV none) (by simp[results,Tryz.results107,go_sem,ptV,ptC]<;>omega) rfl ⟨by rw[Hr.out],?_⟩
    repeat (first|exact Lb _ _|refine Zg ?_ _|refine Zf ?_|apply Zd|refine Zi ?_ (Lf _) _)
end
section
open Go.RowKit Go.Shelf
attribute [local go_sem] Oper.semAt_some
theorem code_in (n:Nat) (wb:Nat) (w:World):
  CallsIn Fence.wide n Tryz.prog 201 #[.pointer (some ⟨wb,0,none⟩)] w fun e w'=>e=.returned (.func (.func 234) #[] #[.pointer (some ⟨w.heap.size,0,none⟩)])/\w'=w.alloc (.cells #[.pointer (some ⟨wb,0,none⟩)] 175):=by
 refine callsIn_of_wp Tryz.func201 rfl trivial ?_ rfl;simp only[Tryz.ntmps201,List.size_toArray,List.length_cons,List.length_nil,Nat.reduceAdd,Nat.reduceSub,Array.replicate_succ,Array.replicate_zero,List.push_toArray,List.append_toArray,List.nil_append,List.cons_append];gi_wp2;go_ret;exact⟨rfl,rfl⟩
theorem Zns (n:Nat) (hn:1<=n) (cb wb B:Nat) (p:GProg) (vp vm:Value) (w0:World) (h:WalkAt w0 B wb p vp vm) (w:World) (hw:Below B w0 w) (hcb:cb<w.heap.size) (hB:B<=w.heap.size) (hc:w.cell? ⟨cb,0,none⟩=some (.pointer (some ⟨wb,0,none⟩))):
  SeqStopsK Fence.wide n Tryz.prog 234 #[.pointer (some ⟨cb,0,none⟩)] (Zlo (w0:=w0) (B:=B) (p:=p)) (Below B) (fun xs=>xs.map pj=pts p) (fun pre=>pre.map pj<+:pts p) (pts p).length w:=fun l J Jx W hW hJ _ hY h0=>
 Zrk n hn l cb wb B p vp vm w0 h J Jx (fun s W' o hs=>hJ s W' _ none hs (Lc W' o none) (fun r e=>by cases e)) hY W (hw.trans (hW.mono hB)) (Nat.le_trans hB hW.size) ((hW.cell (p:=⟨cb,0,none⟩) hcb).trans hc) h0
def Zbn (p:GProg) (q:Nat->GPt->GIns->Bool):Option GPt:=Zq (pts p) fun n y=>if q n y.1 y.2 then some y.1 else none
theorem Zod {w0:World} {B:Nat} {p:GProg} {q:Nat->GPt->GIns->Bool} {xs:List (Pt4 w0 B p)} (hx:xs.map pj=pts p) (h:∀ j y,xs[j]?=some y->q j y.1.1 y.1.2.1=false):Zbn p q=none:=by
 refine Zx fun j _ y hy=>?_
 rw[<-hx,List.getElem?_map] at hy
 cases hz:xs[j]? with
 |none=>rw[hz] at hy;cases hy
 |some z=>
  rw[hz] at hy;injection hy with hy
  subst hy;have:=h j z hz;simp[pj,this]
theorem Zoe {w0:World} {B:Nat} {p:GProg} {q:Nat->GPt->GIns->Bool} {xs:List (Pt4 w0 B p)} {x:Pt4 w0 B p} (hx:(xs++[x]).map pj<+:pts p) (h:∀ j y,xs[j]?=some y->q j y.1.1 y.1.2.1=false) (hq:q xs.length x.1.1 x.1.2.1=true):Zbn p q=some x.1.1:=by
 obtain⟨t,ht⟩:=hx;refine Zo (n:=xs.length) (x:=pj x) (fun j hj y hy=>?_) ?_ (by simp[pj,hq])
 ·rw[<-ht,List.getElem?_append_left (by simp;omega),List.getElem?_map,List.getElem?_append_left hj] at hy
  cases hz:xs[j]? with
  |none=>rw[hz] at hy;cases hy
  |some z=>
   rw[hz] at hy;injection hy with hy
   subst hy;have:=h j z hz;simp[pj,this]
 ·rw[<-ht,List.getElem?_append_left (by simp)];simp
def Same (a b:Nat) (w0 W:World):Prop:=∀ k,a<=k->k<b->W.heap[k]?=w0.heap[k]?
theorem Vd {W W':World} {row:Option Nat} (hg:W.grownBy W' row) (hr:∀ r,row=some r->∃ cs t f,W.heap[r]?=some (.cells cs t f)):KeepsOthers W W':=
 ⟨hg.size,fun k o hk ho=>(hg.block k (Array.getElem?_eq_some_iff.1 hk).1 (fun e=>by
  obtain⟨cs,t,f,hc⟩:=hr k e.symm
  rw[hk] at hc
  cases hc
  cases ho)).trans hk⟩
structure FindI (w wL:World) (row:Option Nat) (J:Nat->World->Prop) (q:Nat->GPt->GIns->Bool) {w0:World} {B:Nat} {p:GProg} (pre:List (Pt4 w0 B p)) (W:World):Prop where
 st:J pre.length W
 gr:w.grownBy W row
 sm:Same w.heap.size wL.heap.size wL W
 sz:wL.heap.size<=W.heap.size
 no:∀ j y,pre[j]?=some y->q j y.1.1 y.1.2.1=false
structure FindX (w wL:World) (row:Option Nat) (q:Nat->GPt->GIns->Bool) {w0:World} {B:Nat} {p:GProg} (c:Code) (pre:List (Pt4 w0 B p)) (W:World):Prop where
 ret:c=.ret
 sp:∃ ys x,pre=ys++[x]/\(∀ j y,ys[j]?=some y->q j y.1.1 y.1.2.1=false)/\q ys.length x.1.1 x.1.2.1=true/\W.heap[w.heap.size+1]?=some (.cells #[.int .i64 x.1.1.1,.int .i64 x.1.1.2.1,.int .i64 x.1.1.2.2] 41 (0,0))
 r2:W.heap[w.heap.size+1+1]?=some (.cells #[.bool true] 4 (0,0))
 gr:w.grownBy W row
theorem Zil {w wL:World} {row:Option Nat} {J:Nat->World->Prop} {q:Nat->GPt->GIns->Bool} {w0:World} {B:Nat} {p:GProg} (hJ:∀ k W W',J k W->Below w.heap.size W W'->J k W') (hL:w.heap.size<=wL.heap.size):
  OwnFrom wL.heap.size (FindI w wL row J q (w0:=w0) (B:=B) (p:=p)):=fun pre W W' row' hs hg hr=>
 have hk:∀ k,k<wL.heap.size->W'.heap[k]?=W.heap[k]?:=fun k hk=>hg.block k (Lm hk hs.sz) (fun e=>by have:=(hr k e.symm).1;omega)
 ⟨hJ _ W W' hs.st ⟨hg.os,hg.tape,hg.output,hg.size,fun k h=>hk k (by omega)⟩,Y3 hs.gr hg (fun r e=>Nat.le_trans hL (hr r e).1),fun k h1 h2=>(hk k h2).trans (hs.sm k h1 h2),Nat.le_trans hs.sz hg.size,hs.no⟩
theorem Zru {w wL:World} {row:Option Nat} {q:Nat->GPt->GIns->Bool} {w0:World} {B:Nat} {p:GProg} (c:Code) (hL:w.heap.size+3<=wL.heap.size):
  OwnFrom wL.heap.size (FindX w wL row q (w0:=w0) (B:=B) (p:=p) c):=fun pre W W' row' hs hg hr=>by
 obtain⟨ys,x,e,h1,h2,h3⟩:=hs.sp;have hk:∀ k o,k<wL.heap.size->W.heap[k]?=some o->W'.heap[k]?=some o:=fun k o hk ho=>(hg.block k (Ze ho) (fun e=>by have:=(hr k e.symm).1;omega)).trans ho
 exact⟨hs.ret,⟨ys,x,e,h1,h2,hk _ _ (by omega) h3⟩,hk _ _ (by omega) hs.r2,Y3 hs.gr hg (fun r e=>by have:=(hr r e).1;omega)⟩
theorem Zs {w:World} {g:Nat} {cs:Array Value} {t:TypeId} (h:w.heap[g]?=some (.cells cs t (0,0))) (i:Nat) (u:Value):(w.setCell ⟨g,i,none⟩ u).heap[g]?=some (.cells (cs.setIfInBounds i u) t (0,0)):=by
 simp[World.setCell,Array.getElem?_modify,h]
theorem Yl {w:World} {g:Nat} {o:Obj} (h:w.heap[g]?=some o) {p:Addr} (hp:g≠p.block) (u:Value):(w.setCell p u).heap[g]?=some o:=(Below.heap_setCell w p u g hp).trans h
theorem Y8 {w:World} {g:Nat} {a b c:Value} {t:TypeId} (h:w.heap[g]?=some (.cells #[a,b,c] t (0,0))) (x y z:Value):
  (((w.setCell ⟨g,0,none⟩ x).setCell ⟨g,1,none⟩ y).setCell ⟨g,2,none⟩ z).heap[g]?=some (.cells #[x,y,z] t (0,0)):=
 Zs (Zs (Zs h 0 x) 1 y) 2 z
theorem Ky (w:World) (a b c d:Addr) (x y z u:Value):KeepsOthers w ((((w.setCell a x).setCell b y).setCell c z).setCell d u):=
 (((KeepsOthers.setCell w a x).trans (KeepsOthers.setCell _ b y)).trans (KeepsOthers.setCell _ c z)).trans (KeepsOthers.setCell _ d u)
theorem Ku (p:GProg) (vp vm:Value) (B wb g:Nat) (lb:Array Value) (w:World) (row:Option Nat) (J:Nat->World->Prop) (q:Nat->GPt->GIns->Bool) (hB:B<=w.heap.size) (h:WalkAt w B wb p vp vm)
  (hrow:∀ r,row=some r->B<=r/\r<w.heap.size) (hrowc:∀ k W,J k W->∀ r,row=some r->∃ cs t f,W.heap[r]?=some (.cells cs t f))
  (eg:∀ args w,(callFunc g args).run Tryz.prog w=.ok (.enter g args) w)
  (hJ:∀ k W W',J k W->Below w.heap.size W W'->J k W') (h0:J 0 w)
  (hp:∀ n pt x va vl W,(pt,x)∈pts p->J n W->w.grownBy W row->InsAt W B x va vl->n<(pts p).length->
   Calls Tryz.prog g (#[ptA pt,Uh x va vl]++lb) W fun e W'=>e=.returned (.bool (q n pt x))/\(q n pt x=false->J (n+1) W')/\W.grownBy W' row):
  Calls Tryz.prog 163 #[.pointer (some ⟨wb,0,none⟩),.func (.func g) #[] lb] w fun e w'=>e=.returned (ptV (Zbn p q))/\w.grownBy w' row:=by
 refine (callsIn_wide (n:=8)).1 ?_;refine callsIn_of_wp_marks Tryz.func163 rfl trivial ?_ rfl;simp only[Tryz.ntmps163,List.size_toArray,List.length_cons,List.length_nil,Nat.reduceAdd,Nat.reduceSub,Array.replicate_succ,Array.replicate_zero,List.push_toArray,List.append_toArray,List.nil_append,List.cons_append];gi_wp2_with (refine⟨trivial,?_⟩;gi_at_call 201;refine (code_in _ _ _).mono ?_;rintro e w' ⟨rfl,rfl⟩);obtain⟨wL,hwL⟩:∃ wL:World,wL=(((w.alloc (.cells #[.func (.func g) #[] lb] 167)).alloc (.cells #[.int .i64 0,.int .i64 0,.int .i64 0] 41)).alloc (.cells #[.bool false] 4)).alloc (.cells #[.pointer (some ⟨wb,0,none⟩)] 175):=⟨_,rfl⟩
 have hsL:wL.heap.size=w.heap.size+4:=by rw[hwL];simp
 have hbL:Below w.heap.size w wL:=by
  rw[hwL];exact ((((Below.refl w.heap.size w).alloc (Lf _) _).alloc (by simp) _).alloc (by simp;omega) _).alloc (by simp;omega) _
 have hf0:wL.heap[w.heap.size]?=some (.cells #[.func (.func g) #[] lb] 167 (0,0)):=by
  rw[hwL];exact Zc (Zc (Zc (La w _) _) _) _
 have hf1:wL.heap[w.heap.size+1]?=some (.cells #[.int .i64 0,.int .i64 0,.int .i64 0] 41 (0,0)):=by
  have:=La (w.alloc (.cells #[.func (.func g) #[] lb] 167)) (.cells #[.int .i64 0,.int .i64 0,.int .i64 0] 41);rw[hwL];refine Zc (Zc ?_ _) _;simpa using this
 have hf2:wL.heap[w.heap.size+1+1]?=some (.cells #[.bool false] 4 (0,0)):=by
  have:=La ((w.alloc (.cells #[.func (.func g) #[] lb] 167)).alloc (.cells #[.int .i64 0,.int .i64 0,.int .i64 0] 41)) (.cells #[.bool false] 4);rw[hwL];refine Zc ?_ _;simpa using this
 have hf3:wL.heap[w.heap.size+1+1+1]?=some (.cells #[.pointer (some ⟨wb,0,none⟩)] 175 (0,0)):=by
  have:=La (((w.alloc (.cells #[.func (.func g) #[] lb] 167)).alloc (.cells #[.int .i64 0,.int .i64 0,.int .i64 0] 41)).alloc (.cells #[.bool false] 4)) (.cells #[.pointer (some ⟨wb,0,none⟩)] 175);rw[hwL];simpa using this
 rw[<-hwL];clear hwL;have hkeep:∀ W,w.grownBy W row->Below B w W:=fun W hg=>Z1 (Below.refl _ _) hg hB (fun r e=>(hrow r e).1)
 refine wpIn_rangeFunc_ownH rfl (by omega) (gf:=234) (lb:= #[.pointer (some ⟨w.heap.size+1+1+1,0,none⟩)]) rfl trivial (enters_of Tryz.func234 (by kernel_rfl) rfl)
  (Zns 7 (by omega) (w.heap.size+1+1+1) wb B p vp vm w h wL (hbL.mono hB) (by omega) (by omega) ((Za hf3).1 0)) belowK_t (belowK_b (by omega)) (Below.refl _ _) (fun _=>rfl)
  (FindI w wL row J q) (FindX w wL row q) (Zil hJ (by omega)) (fun c=>Zru c (by omega))
  ⟨hJ 0 w wL h0 hbL,Qr (Zj hbL) row,fun _ _ _=>rfl,Lf _,fun j y hj=>by simp at hj⟩
  (fun x a' W=>∃ b6 b7,wL.heap.size<=b6/\wL.heap.size<=b7/\W.heap[b6]?=some (.cells #[.int .i64 x.1.1.1,.int .i64 x.1.1.2.1,.int .i64 x.1.1.2.2] 41 (0,0))/\
   W.heap[b7]?=some (.cells #[.int .u8 x.1.2.1.op,.string ⟨x.1.2.1.dst.toArray⟩,.string ⟨x.1.2.1.a.toArray⟩,.string ⟨x.1.2.1.b.toArray⟩,.int .i64 x.1.2.1.n,.string ⟨x.1.2.1.fn.toArray⟩,x.1.2.2.1,x.1.2.2.2] 25 (0,0))/\
   a'={ tmps:= #[.pointer (some ⟨wb,0,none⟩),.func (.func g) #[] lb,undef,.pointer (some ⟨w.heap.size,0,none⟩),.pointer (some ⟨w.heap.size+1,0,none⟩),.pointer (some ⟨w.heap.size+1+1,0,none⟩),.pointer (some ⟨b6,0,none⟩),.pointer (some ⟨b7,0,none⟩),.pointer (some ⟨wb,0,none⟩),.func (.func 234) #[] #[.pointer (some ⟨w.heap.size+1+1+1,0,none⟩)],ptA x.1.1,Uh x.1.2.1 x.1.2.2.1 x.1.2.2.2,undef,undef,undef,undef,undef,undef],defers:=[] })
  (fun x a' _ X Y row' hs hg hr=>by
   obtain⟨b6,b7,h1,h2,h3,h4,h5⟩:=hs
   have hk:∀ (k:Nat) (cs:Array Value) (t:TypeId),X.heap[k]?=some (Obj.cells cs t (0,0))->Y.heap[k]?=some (Obj.cells cs t (0,0)):=fun k cs t hk=>(hg.block k (Ze hk) (fun e=>by
    obtain⟨_,o,ho,hc⟩:=hr k e.symm
    rw[hk] at ho
    cases ho
    cases hc)).trans hk
   exact⟨b6,b7,h1,h2,hk _ _ _ h3,hk _ _ _ h4,h5⟩)
  ?assign ?body ?done ?stop
 case assign=>
  rintro l pre ⟨⟨pt,z,va,vl⟩,hi,hm⟩ W K hI hK;have hi':InsAt w B z va vl:=hi;obtain⟨A4,d4,q4,_,_,_,_⟩:=hi'.args.open_;obtain⟨A5,d5,q5,_,_,_,_⟩:=hi'.lb9.open_;subst q4;subst q5;have hIs:=hI.sz;have hIown:=Zil (p:=p) (w0:=w) (B:=B) (row:=row) (q:=q) hJ (show w.heap.size<=wL.heap.size by omega);simp only[Zlo,ptA,Uh];gi_wp2;have h6:=La W (.cells #[.int .i64 pt.1,.int .i64 pt.2.1,.int .i64 pt.2.2] 41);have h7:=La (W.alloc (.cells #[.int .i64 pt.1,.int .i64 pt.2.1,.int .i64 pt.2.2] 41)) (.cells #[.int .u8 z.op,.string ⟨z.dst.toArray⟩,.string ⟨z.a.toArray⟩,.string ⟨z.b.toArray⟩,.int .i64 z.n,.string ⟨z.fn.toArray⟩,.slice A4 z.args.length d4,.slice A5 z.lb9.length d5] 25);rw[World.size_alloc] at h7;exact hK _ _ (((KeepsOthers.alloc _ _).trans (KeepsOthers.alloc _ _)).from _) (((Below.refl B W).alloc (by omega) _).alloc (by simp;omega) _)
   (hIown pre W _ none hI (Zd (Lc W _ none) _) (fun r e=>by cases e)) ⟨W.heap.size,W.heap.size+1,by omega,by omega,Zc h6 _,h7,rfl⟩
 case body=>
  rintro l pre ⟨⟨pt,z,va,vl⟩,hi,hm⟩ a' W hl hrl hI ⟨b6,b7,h6,h7,hc6,hc7,rfl⟩ hlt;have hi':InsAt w B z va vl:=hi;have hcall:=hp pre.length pt z va vl W hm hI.st hI.gr (hi'.below (hkeep W hI.gr) (Lf _)) hlt;have hsz:=hI.sz;have hf0':W.heap[w.heap.size]?=_:=(hI.sm _ (Lf _) (by omega)).trans hf0;have hf1':W.heap[w.heap.size+1]?=_:=(hI.sm _ (by omega) (by omega)).trans hf1;have hf2':W.heap[w.heap.size+1+1]?=_:=(hI.sm _ (by omega) (by omega)).trans hf2;obtain⟨k1,k2⟩:=Za hf0';obtain⟨k3,k4⟩:=Za hc6;obtain⟨k5,k6⟩:=Za hc7;have hn1:1<=8-1-1:=by omega
  have hafter:∀ W',W.grownBy W' row->(∀ k,w.heap.size<=k->k<W.heap.size->W'.heap[k]?=W.heap[k]?)/\KeepsOthers W W':=fun W' hg'=>
   ⟨fun k h1 h2=>hg'.block k h2 (fun e=>by have:=(hrow k e.symm).2;omega),Vd hg' (hrowc _ _ hI.st)⟩
  have hl6:=Ze hc6;have HI:=hid hI;have Hafter:=hid hafter;have Hc6:=hid hc6;have Hf1:=hid hf1';have Hf2:=hid hf2';clear hI hafter hc6 hc7 hf0' hf1' hf2' hf0 hf1 hf2 hf3 hbL hkeep hp hJ hrowc k2 k4 k6
  cases hq:q pre.length pt z with
  |true=>
   rw[hq] at hcall;gi_wp2_with (refine⟨trivial,?_⟩;refine (CallsIn.inRound l (callsIn_wide.2 hcall)).mono ?_;rintro e W' ⟨rfl,hj',hg'⟩;obtain⟨hk9,hko⟩:=Hafter.out W' hg';obtain⟨k7,k8⟩:=Za ((hk9 b6 (by omega) (by omega)).trans Hc6.out);obtain⟨k9,k10⟩:=Za ((hk9 (w.heap.size+1) (by omega) (by omega)).trans Hf1.out);obtain⟨k11,k12⟩:=Za ((hk9 (w.heap.size+1+1) (by omega) (by omega)).trans Hf2.out));have hq':q pre.length pt z=true:=hq;have hI:=HI.out;have hb1:=(hk9 (w.heap.size+1) (by omega) (by omega)).trans Hf1.out;have hb2:=(hk9 (w.heap.size+1+1) (by omega) (by omega)).trans Hf2.out;refine⟨(hko.trans (Ky _ _ _ _ _ _ _ _ _)).from _,⟨rfl,⟨pre,_,rfl,hI.no,hq',Yl (Y8 hb1 _ _ _) (by simp) _⟩,?_,?_⟩⟩
   ·exact Zs (Yl (Yl (Yl hb2 (by simp) _) (by simp) _) (by simp) _) 0 _
   ·exact Zi (Zi (Zi (Zi (Zb hI.gr hg') (by simp) _) (by simp) _) (by simp) _) (by simp;omega) _
  |false=>
   rw[hq] at hcall;gi_wp2_with (refine⟨trivial,?_⟩;refine (CallsIn.inRound l (callsIn_wide.2 hcall)).mono ?_;rintro e W' ⟨rfl,hj',hg'⟩);have hq':q pre.length pt z=false:=hq;have hI:=HI.out;obtain⟨hk9,hko⟩:=Hafter.out W' hg';refine⟨hko.from _,Z1 (Below.refl _ _) hg' (by omega) (fun r e=>(hrow r e).1),⟨?_,Zb hI.gr hg',fun k h1 h2=>(hk9 k h1 (by omega)).trans (hI.sm k h1 h2),Nat.le_trans hI.sz hg'.size,?_⟩⟩
   ·rw[List.length_append];exact hj' trivial
   ·intro j y hj
    by_cases hjl:j<pre.length
    ·rw[List.getElem?_append_left hjl] at hj;exact hI.no j y hj
    ·rw[List.getElem?_append_right (by omega)] at hj;have hj0:j=pre.length:=by
      rcases Nat.lt_or_ge (j-pre.length) 1 with h1|h1
      ·omega
      ·rw[List.getElem?_eq_none (by simpa using h1)] at hj;cases hj
     subst hj0;simp at hj;subst hj;exact hq'
 case done=>
  rintro D xs W hD hS hI hK;have hsz:=hI.sz;have hb1:=(hI.sm (w.heap.size+1) (by omega) (by omega)).trans hf1;have hb2:=(hI.sm (w.heap.size+1+1) (by omega) (by omega)).trans hf2;obtain⟨k9,k10⟩:=Za hb1;obtain⟨k11,k12⟩:=Za hb2;have HI:=hid hI;have Hb1:=hid hb1;have Hb2:=hid hb2;clear hI hf0 hf1 hf2 hf3 hbL hkeep hp hJ hrowc h hb1 hb2;gi_wp2;have hK':((((W.setCell ⟨w.heap.size+1,0,none⟩ (.int .i64 0)).setCell ⟨w.heap.size+1,1,none⟩ (.int .i64 0)).setCell ⟨w.heap.size+1,2,none⟩ (.int .i64 0)).setCell ⟨w.heap.size+1+1,0,none⟩ (.bool false)).heap[D]?=some (.deferred (some [])):=
   Yl (Yl (Yl (Yl hK (by simp;omega) _) (by simp;omega) _) (by simp;omega) _) (by simp;omega) _
  refine⟨by simp,.inl ⟨_,_,rfl,run_takeDeferred hK',?_⟩⟩;have hc1:=(World.putObj_heap_other (o:=.deferred none) (show w.heap.size+1≠D by omega)).trans (Yl (Y8 Hb1.out (.int .i64 0) (.int .i64 0) (.int .i64 0)) (show w.heap.size+1≠(⟨w.heap.size+1+1,0,none⟩:Addr).block by simp) (.bool false));have hc2:=(World.putObj_heap_other (o:=.deferred none) (show w.heap.size+1+1≠D by omega)).trans (Zs (Yl (Yl (Yl Hb2.out (show w.heap.size+1+1≠(⟨w.heap.size+1,0,none⟩:Addr).block by simp) (.int .i64 0)) (show w.heap.size+1+1≠(⟨w.heap.size+1,1,none⟩:Addr).block by simp) (.int .i64 0)) (show w.heap.size+1+1≠(⟨w.heap.size+1,2,none⟩:Addr).block by simp) (.int .i64 0)) 0 (.bool false));obtain⟨j1,_⟩:=Za hc1;obtain⟨j2,_⟩:=Za hc2;refine⟨ptV none,?_,by rw[Zod hS HI.out.no],?_⟩
  ·simp[results,Tryz.f163,go_sem,ptV,ptC,j1,j2]
  ·exact Y3 (Zi (Zi (Zi (Zi HI.out.gr (by simp) _) (by simp) _) (by simp) _) (by simp;omega) _) (grownBy_putObj' _ D _) (fun r e=>by cases e;omega)
 case stop=>
  rintro D c pre W hD hS hX hK;obtain⟨rfl,⟨ys,x,rfl,h1,h2,hr1⟩,hr2,hgr⟩:=hX;have Hr1:=hid hr1;have Hr2:=hid hr2;clear hf0 hf1 hf2 hf3 hbL hkeep hp hJ hrowc h hr1 hr2;gi_wp2;refine⟨by simp,.inl ⟨_,_,rfl,run_takeDeferred hK,?_⟩⟩;have hc1:=(World.putObj_heap_other (o:=.deferred none) (show w.heap.size+1≠D by omega)).trans Hr1.out;have hc2:=(World.putObj_heap_other (o:=.deferred none) (show w.heap.size+1+1≠D by omega)).trans Hr2.out;obtain⟨j1,_⟩:=Za hc1;obtain⟨j2,_⟩:=Za hc2;refine⟨ptV (some x.1.1),?_,by rw[Zoe hS h1 h2],?_⟩
  ·simp[results,Tryz.f163,go_sem,ptV,ptC,j1,j2]
  ·exact Y3 hgr (grownBy_putObj' _ D _) (fun r e=>by cases e;omega)
end
section
open Go.RowKit Go.Shelf
attribute [local go_sem] Oper.semAt_some
abbrev Bk3 (w0:World) (B:Nat) (bs:List GBlk):Type:={ x:Nat×GBlk×Value // BlkAt w0 B x.2.1 x.2.2/\bs[x.1]?=some x.2.1 }
def encK {w0:World} {B:Nat} {bs:List GBlk} (x:Bk3 w0 B bs):Array Value:= #[.int .i64 x.1.1,.agg #[.string ⟨x.1.2.1.label.toArray⟩,x.1.2.2]]
def Vz (n k:Nat):List Nat:=(List.range k).map fun i=>n-1-i
theorem Zdo (n k:Nat):Vz n (k+1)=Vz n k++[n-1-k]:=by simp[Vz,List.range_succ]
theorem Zjd (A:Option Addr) (n c:Nat) (w:World):
  Calls Tryz.prog 123 #[.slice A n c] w fun e w'=>e=.returned (.func (.func 177) #[] #[.pointer (some ⟨w.heap.size,0,none⟩)])/\w'=w.alloc (.cells #[.slice A n c] 35):=by
 go_enter Tryz.func123,Tryz.ntmps123;go_wp2;go_ret;exact⟨rfl,rfl⟩
structure KpB (B cb:Nat) (W W':World):Prop where
 low:Below B W W'
 cb:W'.heap[cb]?=W.heap[cb]?
theorem Yio {B cb:Nat} {X Y Z:World} (h:KpB B cb X Y) (k:KpB B cb Y Z):KpB B cb X Z:=⟨h.low.trans k.low,k.cb.trans h.cb⟩
theorem kpB_b {B cb:Nat} {w:World} (hn:B<=w.heap.size) (hc:cb<w.heap.size) (W:World) (l:Nat) (o o':Obj) (hl:w.heap.size<=l) (h:W.heap[l]?=some o) (h1:o.isCells=false) (h2:o.isWalk=false):KpB B cb W (W.putObj l o'):=
 ⟨belowK_b hn W l o o' hl h h1 h2,World.putObj_heap_other (by omega)⟩
theorem Zhd (n:Nat) (hn:1<=n) (l cb B:Nat) (bs:List GBlk) (v:Value) (w0:World) (h:BlocksAt w0 B v bs) (J Jx:List (Bk3 w0 B bs)->World->Prop) (hJa:∀ s W o,J s W->J s (W.alloc o))
  (hY:∀ pre x W,J pre W->pre.length<bs.length->YieldAt Fence.wide (n-1) Tryz.prog l (encK x) W fun e W'=>
   (e=.returned (.bool true)/\J (pre++[x]) W'/\KpB B cb W W')\/(e=.returned (.bool false)/\Jx (pre++[x]) W'))
  (W:World) (hW:Below B w0 W) (hBW:B<=W.heap.size) (hc:W.cell? ⟨cb,0,none⟩=some v) (h0:J [] W):
  CallsIn Fence.wide n Tryz.prog 177 #[.func (.yield l) #[] #[],.pointer (some ⟨cb,0,none⟩)] W fun e W'=>(∃ v,e=.returned v)/\
   ((∃ xs,xs.map (·.1.1)=Vz bs.length bs.length/\J xs W')\/(∃ pre,True/\Jx pre W')):=by
 obtain⟨A,c,rfl,hm,hlc,hcm,hA⟩:=h.open_;have hJh:=hid hJa;have hYh:=hid hY;have hJs:=hJa;have hYs:=hY;clear h hJa hY hJs hYs;refine callsIn_of_wp Tryz.func177 rfl trivial ?_ rfl;simp only[Tryz.ntmps177,List.size_toArray,List.length_cons,List.length_nil,Nat.reduceAdd,Nat.reduceSub,Array.replicate_succ,Array.replicate_zero,List.push_toArray,List.append_toArray,List.nil_append,List.cons_append];have hlen0: -1<=(bs.length:Int)-1:=by omega
 gi_wp2;gi_loopw [3] (fun s3 wr=>∃ j:Nat,j<=bs.length/\s3=.int .i64 ((j:Int)-1)/\Hid (Below B W wr/\B<=wr.heap.size/\wr.cell? ⟨cb,0,none⟩=some (.slice A bs.length c))/\Hid (∃ xs,xs.map (·.1.1)=Vz bs.length (bs.length-j)/\J xs wr)) (fun s3 _=>(intOf s3+1).toNat)
 case atStart=>exact⟨bs.length,Lf _,rfl,⟨Below.refl _ _,hBW,hc⟩,[],by simp[Vz],h0⟩
 case round=>
  obtain⟨j,hjl,rfl,hg,hX⟩:=hrel;have hb:=hW.trans hg.out.1;have hcr:=hg.out.2.2
  rcases j with _|i
  ·have e0:(((0:Nat):Int)-1)= -1:=rfl;rw[e0];clear e0 hb hcr hc;gi_wp2;go_end0;obtain⟨xs,h1,h2⟩:=hX.out;exact⟨⟨_,rfl⟩,.inl ⟨xs,h1,h2⟩⟩
  ·have e0:(((i+1:Nat):Int)-1)=i:=by omega
   rw[e0];obtain⟨x,b,off,hx,rfl,hbB,hr⟩:=hA.at_ (show i<bs.length by omega);obtain⟨A3,d3,hf,m3,e1,e2⟩:=Yg hr;replace e1:=cur hb hbB e1;replace e2:=cur hb hbB e2;obtain⟨xs,hxs,hJx⟩:=hX.out;obtain⟨q,hq⟩:∃ q:Bk3 w0 B bs,q=⟨(i,x,.slice A3 x.code.length d3),hf,hx⟩:=⟨_,rfl⟩
   have hlen:xs.length<bs.length:=by
    have:=congrArg List.length hxs;simp[Vz] at this;omega
   obtain⟨fn,tmps,assign,body,hy9,hR⟩:=hYh.out xs q wr hJx hlen;have he:encK q= #[.int .i64 i,.agg #[.string ⟨x.label.toArray⟩,.slice A3 x.code.length d3]]:=by rw[hq];rfl
   rw[he] at hy9
   have Hxs:=hid (show (xs++[q]).map (·.1.1)=Vz bs.length (bs.length-i) by
    rw[List.map_append,hxs,show bs.length-i=(bs.length-(i+1))+1 by omega,Zdo,hq]
    simp
    omega)
   have hil:i<bs.length:=by omega
   clear e0 hx hr hf hq he hxs hlen hb hc;gi_wp2;refine hR.mono ?_;rintro e W3 (⟨rfl,hJ3,hk3⟩|⟨rfl,hJx3⟩)
   ·gi_wp2;go_roundw
    case rel=>exact⟨i,by omega,by go_num,⟨hg.out.1.trans hk3.low,by have:=hk3.low.size;have:=hg.out.2.1;omega,(Lj hk3.cb).trans hg.out.2.2⟩,_,Hxs.out,hJ3⟩
    case measure=>simp[intOf]
   ·gi_wp2;refine bodyPost_ret (results_none rfl _ _ _) rfl ?_;exact⟨⟨_,rfl⟩,.inr ⟨_,trivial,hJx3⟩⟩
theorem Zfg (n:Nat) (hn:1<=n) (cb B:Nat) (bs:List GBlk) (v:Value) (w0:World) (h:BlocksAt w0 B v bs) (w:World) (hw:Below B w0 w) (hcb:cb<w.heap.size) (hB:B<=w.heap.size) (hc:w.cell? ⟨cb,0,none⟩=some v):
  SeqStopsK Fence.wide n Tryz.prog 177 #[.pointer (some ⟨cb,0,none⟩)] (encK (w0:=w0) (B:=B) (bs:=bs)) (KpB B cb) (fun xs=>xs.map (·.1.1)=Vz bs.length bs.length) (fun _=>True) bs.length w:=fun l J Jx W hW hJ _ hY h0=>
 Zhd n hn l cb B bs v w0 h J Jx (fun s W' o hs=>hJ s W' _ none hs (Lc W' o none) (fun r e=>by cases e)) hY W (hw.trans (hW.mono hB)) (Nat.le_trans hB hW.size) ((hW.cell (p:=⟨cb,0,none⟩) hcb).trans hc) h0
end
section
open Go.RowKit
def shpV (s:Shp):Value:=.agg #[.bool s.dst,.bool s.a,.bool s.b,.bool s.n,.bool s.fn,.bool s.args,.bool s.lb9]
def Zgw:List (Int×Value):=[1,2,3,4,5,8,6,7,9,10,11,12,13,14].map fun o=>((o:Nat),shpV (Ym o))
def shapeObj:Obj:=Z7 encUI idV Zgw
theorem Zdg (o:Nat):Z6 Zgw (o:Int)=(Y0 o).map shpV:=by
 match o with
 |0=>rfl
 |1=>rfl
 |2=>rfl
 |3=>rfl
 |4=>rfl
 |5=>rfl
 |6=>rfl
 |7=>rfl
 |8=>rfl
 |9=>rfl
 |10=>rfl
 |11=>rfl
 |12=>rfl
 |13=>rfl
 |14=>rfl
 |n+15=>
  have h:∀ k:Nat,k<=14->(((n+15:Nat):Int) == (k:Int))=false:=fun k hk=>beq_eq_false_iff_ne.2 (by omega)
  simp only[Zgw,List.map_cons,List.map_nil,Z6];rw[h 1 (by omega),h 2 (by omega),h 3 (by omega),h 4 (by omega),h 5 (by omega),h 8 (by omega),h 6 (by omega),h 7 (by omega),h 9 (by omega),h 10 (by omega),h 11 (by omega),h 12 (by omega),h 13 (by omega),h 14 (by omega)];rfl
theorem Ziz {w:World} {r:Nat} (hb:w.heap[r]?=some shapeObj) (o:Nat):
  (Instr.lookup 176 (.map (some r)) (.int .u8 o) false).run Tryz.prog w=.ok (shpV (Ym o)) w:=by
 have h:=V4 (P:=Tryz.prog) (Zgf Tryz.underlying22) Tryz.underlying176 hb (o:Int) (z:=shpV ⟨false,false,false,false,false,false,false⟩) (by kernel_rfl);rw[Zdg] at h;simp only[encUI] at h;rw[h];unfold Ym
 cases Y0 o<;>rfl
theorem Zu {w:World} {r:Nat} (hb:w.heap[r]?=some shapeObj) (o:Nat):
  (Instr.lookup 176 (.map (some r)) (.int .u8 o) true).run Tryz.prog w=.ok (.tuple #[shpV (Ym o),.bool (Y0 o).isSome]) w:=by
 have h:=Vl (P:=Tryz.prog) (Zgf Tryz.underlying22) Tryz.underlying176 hb (o:Int) (z:=shpV ⟨false,false,false,false,false,false,false⟩) (by kernel_rfl);rw[Zdg] at h;simp only[encUI] at h;rw[h];unfold Ym
 cases Y0 o<;>rfl
theorem Zpl (w:World):
  Calls Tryz.prog 106 #[] w fun e w'=>e=.returned (.map (some w.heap.size))/\w'=w.alloc shapeObj:=by
 have hmm:∀ w:World,(Instr.makeMap 176 none).run Tryz.prog w=.ok (.map (some w.heap.size)) (w.alloc (Z7 encUI idV [])):= @run_makeMap Tryz.prog 176;go_enter Tryz.func106,Tryz.ntmps106;go_wp2_with (refine Vt rfl _ _ _ _ rfl (Zgf Tryz.underlying22) Tryz.underlying176 _ _ rfl rfl _ _ rfl rfl ?_);go_ret;exact⟨rfl,rfl⟩
end

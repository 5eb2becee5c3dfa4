/- The machine of package step. Conditions in it. -/
import Derived.Test.YtphnnmecmiodhaaGreatEStY
set_option maxHeartbeats 8000000
set_option maxRecDepth 100000
set_option linter.all false
namespace Go.Proofs.YtphnnmecmiodhaaGreat
open Lib(hid)
section
open Go.RowKit Go.Shelf
variable {wB:Bs} {lo ms:Nat} {vp:Value} {p:GProg} {W W':World} {g:SAd} {s:GM} {l:List GAct} {a:GAct} {z:GIns} {A7 A8:Option Addr} {d7 d8:Nat}
theorem Zgj (E:StE wB lo ms vp p) (h:Ma wB ms vp W g s) (ha:s.acts=l++[a]) {f:Nat} {x:GFun} (hx:p[f]?=some x) {args:List Str} (hl:x.params.length=args.length) (hl8:args.length<=8) (hA:∀ W',W.grownBy W' none->StrsAt W' wB.heap.size (.slice A7 args.length d7) args):
  Calls Tryz.prog 180 #[.pointer (some ⟨g.m,0,none⟩),.int .i64 f,.slice A7 args.length d7] W (MOut wB ms vp W g (s.enter p f args)):=by
 by_cases h64:64<=s.acts.length
 ·have:=Zmg h (f:=f) (va:=.slice A7 args.length d7) h64;unfold GM.enter;rw[if_pos h64];exact this
 ·exact Zor E h ha h64 hx hl hl8 hA
theorem MOut.trans {s':GM} {e:Ending} {w' W1:World} (h:Stp W g W1 g) (h1:MOut wB ms vp W1 g s' e w'):MOut wB ms vp W g s' e w':=by
 obtain⟨e1,g',m,q⟩:=h1;exact⟨e1,g',m,h.trans q⟩
theorem Zsg (E:StE wB lo ms vp p) (h:Ma wB ms vp W g s) (ha:s.acts=l++[a]) {x:GFun} (hx:p[ixK (Zy p p.length) z.fn]?=some x) (hl:x.params.length=z.args.length) (hl8:z.args.length<=8) (hA:∀ W',W.grownBy W' none->StrsAt W' wB.heap.size (.slice A7 z.args.length d7) z.args):Calls Tryz.prog 117 #[.pointer (some ⟨g.m,0,none⟩),Ui z A7 d7 A8 d8] W (MOut wB ms vp W g (s.enter p (ixK (Zy p p.length) z.fn) z.args)):=by
 obtain⟨W1,hW1,hg1,hI⟩:=Vu W z A7 d7 A8 d8;have h1:=h.grow hg1;have HSc:=hid (show ∀ W',W1.grownBy W' none->W'.cell? ⟨g.m,0,none⟩=some (.pointer (some ⟨ms,0,none⟩))/\W'.cell? ⟨W.heap.size,5,none⟩=some (.string ⟨z.fn.toArray⟩)/\W'.cell? ⟨W.heap.size,6,none⟩=some (.slice A7 z.args.length d7) from fun W' hg=>⟨(h1.grow hg).cell 0,hI _ hg 5,hI _ hg 6⟩);have Hf:=hid (fun (W':World) (hg:W1.grownBy W' none)=>J8 (E.mapAt (h1.grow hg)) z.fn);have Hn:=hid (fun (W':World) (hg:W1.grownBy W' none)=>Zgj E (h1.grow hg) ha hx hl hl8 (fun W'' hg'=>hA W'' (Zb (Zb hg1 hg) hg')));have Hs:=hid (fun (W':World) (hg:W1.grownBy W' none)=>(Stp.refl W g).grow (Zb hg1 hg));have hg:=Lb W1 none;clear h h1 E ha hg1 hI hx hl hl8 hA;unfold Ui;go_enter Tryz.func117,Tryz.ntmps117;go_upto_region 1 with (fail)
 rw[<-hW1];clear hW1;go_region_held3 (fun W'=>W'.cell? ⟨g.m,0,none⟩=some (.pointer (some ⟨ms,0,none⟩))/\W'.cell? ⟨W.heap.size,5,none⟩=some (.string ⟨z.fn.toArray⟩)/\W'.cell? ⟨W.heap.size,6,none⟩=some (.slice A7 z.args.length d7)) (first|exact HSc.out _ hg|exact HSc.out _ (Zf hg)) ((go_simp;go_at_call 37;first|(refine (Hf.out _ (Zf hg)).mono ?_;rintro e w1 ⟨rfl,hg1⟩;have hg:=Zb (Zf hg) hg1;clear hg1)|(refine (Hf.out _ hg).mono ?_;rintro e w1 ⟨rfl,hg1⟩;have hg:=Zb hg hg1;clear hg1)))
 all_goals
  obtain⟨-,-,k1⟩:=HSc.out _ hg;have hn:=Hn.out _ hg;have Hs1:=hid (Hs.out _ hg);clear hg;go_wp2_with (go_at_call 180;refine hn.mono ?_;rintro e w2 ⟨rfl,g',hm,hs⟩);go_end0;exact⟨rfl,_,hm,Hs1.out.trans hs⟩
theorem Zou (E:StE wB lo ms vp p) (h:Ma wB ms vp W g s) (ha:s.acts=l++[a]) (hv:(a.has p z.a).kind=2->(a.has p z.a).n<p.length) (hl8:z.args.length<=8) (hA:∀ W',W.grownBy W' none->StrsAt W' wB.heap.size (.slice A7 z.args.length d7) z.args):Calls Tryz.prog 118 #[.pointer (some ⟨g.m,0,none⟩),Ui z A7 d7 A8 d8] W (MOut wB ms vp W g (s.icall p (a.has p z.a) z.args)):=by
 obtain⟨W1,hW1,hg1,hI⟩:=Vu W z A7 d7 A8 d8;have h1:=h.grow hg1;obtain⟨v,hvv⟩:∃ v,v=a.has p z.a:=⟨_,rfl⟩
 have Hh:=hid (fun (W':World) (hg:W1.grownBy W' none)=>Uj E (h1.grow hg) ha z.a);have HSc:=hid (show ∀ W',W1.grownBy W' none->W'.cell? ⟨W.heap.size,2,none⟩=some (.string ⟨z.a.toArray⟩)/\W'.cell? ⟨W.heap.size,6,none⟩=some (.slice A7 z.args.length d7) from fun W' hg=>⟨hI _ hg 2,hI _ hg 6⟩);rw[<-hvv] at Hh hv ⊢;have H1:=hid h1;have Hs:=hid (fun (W':World) (hg:W1.grownBy W' none)=>(Stp.refl W g).grow (Zb hg1 hg));have HA:=hid (show ∀ W',W1.grownBy W' none->StrsAt W' wB.heap.size (.slice A7 z.args.length d7) z.args from fun W' hg=>hA W' (Zb hg1 hg));have HE:=hid E;unfold Yf at Hh;have hg:=Lb W1 none;obtain⟨k1,-⟩:=HSc.out _ hg;have hh:=Hh.out _ hg;clear h h1 E hg1 hI hA hvv;unfold GM.icall
 by_cases hk:v.kind=2
 ·rw[if_pos hk];have hx:=Ld (hv hk);obtain⟨x,hxx⟩:∃ x,x=p[v.n]'(hv hk):=⟨_,rfl⟩
  rw[<-hxx] at hx;rw[hk] at hh;rw[Ke hx,List.length_map];have Hx:=hid hx;obtain⟨vn,hvn⟩:∃ vn,vn=v.n:=⟨_,rfl⟩
  rw[<-hvn] at hh Hx ⊢
  have HSp:=hid (show ∀ W',W1.grownBy W' none->∃ A0 c0 A1 d1 g1 o1,W'.cell? ⟨g.m,10,none⟩=some (.slice (some ⟨g1,o1,none⟩) A0 c0)/\vn<A0/\A0<=9223372036854775807/\A0<=c0/\W'.cell? ⟨g1,o1+vn*3+1,none⟩=some (.slice A1 x.params.length d1) from fun W' hg=>by
   have h':=H1.out.grow hg
   have hP:=HE.out.progAt h'
   obtain⟨A0,c0,e0,m1,m2,m3,-⟩:=hP.open_
   have hp10:W'.cell? ⟨g.m,10,none⟩=some vp:=h'.cell 10
   rw[e0] at hP hp10
   obtain⟨f',g1,o1,hf',rfl,hg1,hr1⟩:=hP.at_ (Le Hx.out).1
   rw[Hx.out] at hf'
   cases hf'
   obtain⟨A1,d1,A2,d2,hF,n1,n2,c0',c1',c2'⟩:=Yh hr1
   exact⟨_,_,A1,d1,g1,o1,hp10,(Le Hx.out).1,m1,m2,c1'⟩)
  clear hv hk hx hxx hvn Hh
  by_cases hln:x.params.length=z.args.length
  ·rw[if_pos hln];have Hn:=hid (fun (W':World) (hg:W1.grownBy W' none)=>Zgj HE.out (H1.out.grow hg) ha Hx.out hln hl8 (fun W'' hg'=>HA.out W'' (Zb hg hg')));rw[hln] at HSp;clear ha hl8 hln;unfold Ui;go_enter Tryz.func118,Tryz.ntmps118;go_upto_region 1 with (fail)
   rw[<-hW1];clear hW1;go_upto_region 3 with (go_at_call 176;refine hh.mono ?_;rintro e w2 ⟨rfl,hg2⟩)
   obtain⟨w3,hw3⟩:∃ w3:World,w3=w2.alloc (.cells #[.int .u8 2,.int .i64 v.obj,.int .i64 vn] 72):=⟨_,rfl⟩
   rw[<-hw3];have hbv:w3.heap[w2.heap.size]?=some (.cells #[.int .u8 2,.int .i64 v.obj,.int .i64 vn] 72 (0,0)):=by rw[hw3];exact La _ _
   have hg3:W1.grownBy w3 none:=by rw[hw3];exact Zd hg2 _
   have v0:=(Za hbv).1 0;have v1:=(Za hbv).1 1;have v2:=(Za hbv).1 2;obtain⟨A0,c0,A1,d1,g1,o1,p1,p2,p3,p4,p5⟩:=HSp.out _ hg3;obtain⟨-,k6⟩:=HSc.out _ hg3;have Hs1:=hid (Hs.out _ hg3);have hn:=Hn.out;have hg:=hg3;clear hbv hw3 hg2;go_upto_region 5 with (fail)
   go_quiet (fail);have hn:=Hn.out _ (Zg hg3 nq);have Hs1:=hid (Hs.out _ (Zg hg3 nq));go_wp2_with (go_at_call 180;refine hn.mono ?_;rintro e w2 ⟨rfl,g',hm,hs⟩);go_end0;exact⟨rfl,_,hm,Hs1.out.trans hs⟩
  ·rw[if_neg hln];have hln':¬ ((x.params.length:Int)=(z.args.length:Int)):=by omega
   clear ha hl8 hln;unfold Ui;go_enter Tryz.func118,Tryz.ntmps118;go_upto_region 1 with (fail)
   rw[<-hW1];clear hW1;go_upto_region 3 with (go_at_call 176;refine hh.mono ?_;rintro e w2 ⟨rfl,hg2⟩)
   obtain⟨w3,hw3⟩:∃ w3:World,w3=w2.alloc (.cells #[.int .u8 2,.int .i64 v.obj,.int .i64 vn] 72):=⟨_,rfl⟩
   rw[<-hw3];have hbv:w3.heap[w2.heap.size]?=some (.cells #[.int .u8 2,.int .i64 v.obj,.int .i64 vn] 72 (0,0)):=by rw[hw3];exact La _ _
   have hg3:W1.grownBy w3 none:=by rw[hw3];exact Zd hg2 _
   have v0:=(Za hbv).1 0;have v1:=(Za hbv).1 1;have v2:=(Za hbv).1 2;obtain⟨A0,c0,A1,d1,g1,o1,p1,p2,p3,p4,p5⟩:=HSp.out _ hg3;obtain⟨-,k6⟩:=HSc.out _ hg3;have hg:=hg3;clear hbv hw3 hg2;go_upto_region 5 with (fail)
   go_quiet (fail);have hg4:=Zg hg3 nq;obtain⟨q1,q2⟩:=(H1.out.grow hg4).stopAt 4;have Hq:=hid (And.intro q1 ((Hs.out _ hg4).trans q2));have Hb3:=(Za (H1.out.grow hg4).blk).2 3;have m3:(w3.drewN nq).cell? ⟨g.m,3,none⟩=some (.int .u8 s.stop):=(H1.out.grow hg4).cell 3;clear q1 q2;go_wp2_with (fail);go_end0;exact⟨rfl,g,Hq.out⟩
 ·rw[if_neg hk];have hk':¬ ((v.kind:Int)=2):=by omega
  clear ha hl8 hk hv;unfold Ui;go_enter Tryz.func118,Tryz.ntmps118;go_upto_region 1 with (fail)
  rw[<-hW1];clear hW1;go_upto_region 3 with (go_at_call 176;refine hh.mono ?_;rintro e w2 ⟨rfl,hg2⟩)
  obtain⟨w3,hw3⟩:∃ w3:World,w3=w2.alloc (.cells #[.int .u8 v.kind,.int .i64 v.obj,.int .i64 v.n] 72):=⟨_,rfl⟩
  rw[<-hw3];have hbv:w3.heap[w2.heap.size]?=some (.cells #[.int .u8 v.kind,.int .i64 v.obj,.int .i64 v.n] 72 (0,0)):=by rw[hw3];exact La _ _
  have hg3:W1.grownBy w3 none:=by rw[hw3];exact Zd hg2 _
  have v0:=(Za hbv).1 0;have v1:=(Za hbv).1 1;have v2:=(Za hbv).1 2;obtain⟨q1,q2⟩:=(H1.out.grow hg3).stopAt 2;have Hq:=hid (And.intro q1 ((Hs.out _ hg3).trans q2));have Hb3:=(Za (H1.out.grow hg3).blk).2 3;have m3:w3.cell? ⟨g.m,3,none⟩=some (.int .u8 s.stop):=(H1.out.grow hg3).cell 3;have hgr:=Lb w3 none;clear q1 q2 hbv hw3 hg2;go_wp2_with (fail);go_end0;exact⟨rfl,g,Hq.out⟩
end
section
open Go.RowKit Go.Shelf
variable {wB:Bs} {lo ms:Nat} {vp:Value} {p:GProg} {W W':World} {g:SAd} {s:GM} {l:List GAct} {a:GAct} {z:GIns} {A7 A8:Option Addr} {d7 d8:Nat}
theorem Zp (hg:W.grownBy W' none) {q:Addr} {v:Value} (h:W.cell? q=some v):W'.cell? q=some v:=
 (Lj (hg.block q.block (World.block_lt_of_cell? W q h) (by simp))).trans h
theorem Zme (E:StE wB lo ms vp p) (h:Ma wB ms vp W g s) {x:GAct} {b k:Nat} (hx:W.heap[b]?=some (.cells (Zaq x k) 149 (0,0))) {f:GFun} {y:GBlk} (hf:p[x.pt.1]?=some f) (hy:f.bk9[x.pt.2.1]?=some y):
  ∃ A c,CodeAt W wB.heap.size (.slice A y.code.length c) y.code/\∀ W',W.grownBy W' none->Calls Tryz.prog 81 #[.pointer (some ⟨g.m,0,none⟩),.pointer (some ⟨b,0,none⟩)] W' fun e w'=>e=.returned (.slice A y.code.length c)/\∃ n,w'=W'.drewN n:=by
 have hP:=E.progAt h;obtain⟨A0,c0,e0,m1,m2,m3,-⟩:=hP.open_;have hp10:W.cell? ⟨g.m,10,none⟩=some vp:=h.cell 10;rw[e0] at hP hp10;have hil:=(Le hf).1;obtain⟨f',g1,o1,hf',rfl,hg1,hr1⟩:=hP.at_ hil;rw[hf] at hf'
 cases hf'
 obtain⟨A1,d1,A2,d2,hF,n1,n2,c0',c1',c2'⟩:=Yh hr1;have hbl:=(Le hy).1;obtain⟨y',g2,o2,hy',rfl,hg2,hr2⟩:=hF.bk9.at_ hbl;rw[hy] at hy'
 cases hy'
 obtain⟨A3,d3,hB,n3,c3',c4'⟩:=Yg hr2;have k0:W.cell? ⟨b,0,none⟩=some (.int .i64 x.pt.1):=(Za hx).1 0;have k1:W.cell? ⟨b,1,none⟩=some (.int .i64 x.pt.2.1):=(Za hx).1 1;refine⟨A3,d3,hB.code,fun W' hg=>?_⟩;replace hp10:=Zp hg hp10;replace c2':=Zp hg c2';replace c4':=Zp hg c4';replace k0:=Zp hg k0;replace k1:=Zp hg k1;clear h hP E hx hf hy hr1 hr2 hF hB e0 c0' c1' c3' hg;go_enter Tryz.func81,Tryz.ntmps81;go_upto_region 1 with (fail)
 go_quiet (fail);go_wp2;go_ret;exact⟨rfl,_,rfl⟩
theorem Zvf (E:StE wB lo ms vp p) (h:Ma wB ms vp W g s) (ha:s.acts=l++[a]) (hb:∀ b l',l=l'++[b]->∃ f y x,p[b.pt.1]?=some f/\f.bk9[b.pt.2.1]?=some y/\y.code[b.pt.2.2]?=some x/\b.pt.2.2<=1000000):Calls Tryz.prog 121 #[.pointer (some ⟨g.m,0,none⟩),Ui z A7 d7 A8 d8] W (MOut wB ms vp W g (s.ret p (a.has p z.a))):=by
 obtain⟨W1,hW1,hg1,hI⟩:=Vu W z A7 d7 A8 d8;have h1:=h.grow hg1;obtain⟨v,hvv⟩:∃ v,v=a.has p z.a:=⟨_,rfl⟩
 have hh:=Uj E h1 ha z.a;rw[<-hvv] at hh ⊢;have k1:W1.cell? ⟨W.heap.size,2,none⟩=some (.string ⟨z.a.toArray⟩):=hI _ (Lb _ _) 2;obtain⟨gb,c,ad,e1,e2,e3,e4,e5,c1,c2,c3⟩:=h1.top ha;have hgl:=Ze h1.blk;have H1:=hid h1;have Hs:=hid (fun (W':World) (hg:W1.grownBy W' none)=>(Stp.refl W g).grow (Zb hg1 hg))
 have HSc:=hid (show ∀ W',W1.grownBy W' none->W'.cell? ⟨g.m,2,none⟩=some (.slice (some ⟨gb,0,none⟩) (l.length+1) c)/\W'.frozen? ⟨g.m,2,none⟩=false/\W'.heap[g.m]?=some (.cells (Vx ms vp g s) 145 (0,0)) from fun W' hg=>by
  have h':=h1.grow hg
  exact⟨by rw[<-e1];exact h'.cell 2,(Za h'.blk).2 2,h'.blk⟩)
 have HE:=hid E;have Hb:=hid hb;have Ha:=hid (And.intro ha e1);obtain⟨N,hN⟩:∃ N,N=l.length:=⟨_,rfl⟩
 rw[<-hN] at HSc e2;have hcm:c<=9223372036854775807:=by unfold maxLen at e3;omega
 have hnc:N<=c:=by omega
 have hnc':(N:Int)<=(c:Int):=by omega
 have hw:IntKind.i64.wrap (N:Int)=(N:Int):=by rw[IntKind.wrap_i64];omega
 have HN:=hid hN;unfold Yf at hh;clear h h1 E hg1 hI hvv hb ha e1 e3 e4 e5 c1 c2 c3 hN;unfold Ui;go_enter Tryz.func121,Tryz.ntmps121;go_upto_region 1 with (fail)
 rw[<-hW1];clear hW1;go_upto_region 2 with (go_at_call 176;refine hh.mono ?_;rintro e w2 ⟨rfl,hg2⟩)
 obtain⟨w3,hw3⟩:∃ w3:World,w3=w2.alloc (.cells #[.int .u8 v.kind,.int .i64 v.obj,.int .i64 v.n] 72):=⟨_,rfl⟩
 rw[<-hw3];have hbv:w3.heap[w2.heap.size]?=some (.cells #[.int .u8 v.kind,.int .i64 v.obj,.int .i64 v.n] 72 (0,0)):=by rw[hw3];exact La _ _
 have hg3:W1.grownBy w3 none:=by rw[hw3];exact Zd hg2 _
 have Hv:=hid hbv;have hgne:w2.heap.size≠g.m:=by have:=hg2.size;omega
 have Hne:=hid hgne;obtain⟨m2,m2f,-⟩:=HSc.out _ hg3;have Hg3:=hid hg3;clear hbv hw3 hg2 hg3 hh k1 hgne;go_region_law (fail)
 all_goals
  first
   |(obtain⟨w4,hw4⟩:∃ w4:World,w4=(w3.setCell ⟨g.m,2,none⟩ (.slice (some ⟨gb,0,none⟩) N c)).drew:=⟨_,rfl⟩;rw[<-hw4])
   |(obtain⟨w4,hw4⟩:∃ w4:World,w4=w3.drew.setCell ⟨g.m,2,none⟩ (.slice (some ⟨gb,0,none⟩) N c):=⟨_,rfl⟩;rw[<-hw4])
  have hQ:w4.heap[g.m]?=some (.cells (Vx ms vp { g with v:=.slice (some ⟨gb,0,none⟩) N c } s.pop) 145 (0,0))/\Chg (fun n=>n=g.m) w3 w4:=by
   have hb:=(HSc.out _ Hg3.out).2.2;rw[hw4];have h1:=Zs hb 2 (.slice (some ⟨gb,0,none⟩) N c);have h1':(w3.setCell ⟨g.m,2,none⟩ (.slice (some ⟨gb,0,none⟩) N c)).drew.heap[g.m]?=_:=h1;have h2:=Zs (show w3.drew.heap[g.m]?=_ from hb) 2 (.slice (some ⟨gb,0,none⟩) N c);have c1:=Chg.set (Q:=fun n=>n=g.m) w3 (p:=⟨g.m,2,none⟩) rfl (.slice (some ⟨gb,0,none⟩) N c);have c2:=Chg.set (Q:=fun n=>n=g.m) w3.drew (p:=⟨g.m,2,none⟩) rfl (.slice (some ⟨gb,0,none⟩) N c);have c0:∀ w:World,Chg (fun n=>n=g.m) w w.drew:=fun w=>Chg.grown (Zf (Lb w none)) (fun r e=>by cases e)
   first
    |exact⟨by simpa [Vx,GM.pop] using h1',c1.trans (c0 _) (fun _ _ e=>e)⟩
    |exact⟨by simpa [Vx,GM.pop] using h2,(c0 _).trans c2 (fun _ _ e=>e)⟩
  obtain⟨hb4,hc4⟩:=hQ;obtain⟨ha,e1⟩:=Ha.out;rw[HN.out] at hb4;obtain⟨q1,q2⟩:=H1.out.popA ha e1 (Chg.trans (Q':=fun n=>n=g.m) (Chg.grown (Q:=fun n=>n=g.m) Hg3.out (fun r e=>by cases e)) hc4 (fun _ _ e=>e)) hb4;rw[<-HN.out] at q1 q2 hb4;have hv4:=hc4.at_ Hv.out Hne.out;have v0:=(Za hv4).1 0;have v1:=(Za hv4).1 1;have v2:=(Za hv4).1 2;have m2:w4.cell? ⟨g.m,2,none⟩=some (.slice (some ⟨gb,0,none⟩) N c):=(Za hb4).1 2;have Q2:=hid ((Hs.out W1 (Lb _ _)).trans q2);have Q1:=hid q1;have hla:s.pop.acts=l:=by simp[GM.pop,ha]
  have Hla:=hid hla;have hr:s.ret p v=if l.isEmpty then { s.pop with stop:=1 } else s.pop.next p (Yp p s.pop.top.pt).dst v 0:=by unfold GM.ret;rw[hla]
  clear hw4 hc4 hv4 q1 q2 ha e1 hla hb4 m2f
  by_cases hN:N=0
  ·have hl0:l=[]:=List.eq_nil_of_length_eq_zero (by have:=HN.out;omega);subst hN;rw[hl0] at hr;simp only[List.isEmpty_nil,if_true] at hr;obtain⟨q3,q4⟩:=Q1.out.stopAt 1;have Hq:=hid (And.intro q3 (Q2.out.trans q4));have m3:w4.cell? ⟨g.m,3,none⟩=some (.int .u8 s.stop):=Q1.out.cell 3;have m3f:=(Za Q1.out.blk).2 3;simp only at m3f;have Hr:=hid hr;clear q3 q4 hl0 hr;go_wp2_with (fail);refine bodyPost_ret (results_none rfl _ _ _) rfl ?_;rw[Hr.out];exact⟨rfl,_,Hq.out⟩
  ·obtain⟨l',b,hlb⟩:∃ l' b,l=l'++[b]:=by
    rcases List.eq_nil_or_concat l with e|⟨l',b,e⟩
    ·exact absurd (by have:=HN.out;rw[e] at this;simpa using this) hN
    ·exact⟨l',b,by simpa using e⟩
   have hlb':s.pop.acts=l'++[b]:=Hla.out.trans hlb;have hne:l.isEmpty=false:=by rw[hlb];simp
   rw[hne] at hr;simp only[Bool.false_eq_true,if_false] at hr;obtain⟨f,y,x,hf,hy,hx,hxa⟩:=Hb.out b l' hlb;have hip:Yp p s.pop.top.pt=x:=by
    rw[X1 hlb'];exact Qj hf hy hx
   rw[hip] at hr;have Hr:=hid hr;clear hr;obtain⟨gb2,c2,ad2,t1,t2,t3,t4,t5,t6,t7,t8⟩:=Q1.out.top hlb';have ht:=Vo Q1.out hlb' t4;obtain⟨Ac,cc,hcd,hcode⟩:=Zme HE.out Q1.out t7 hf hy;have hil:=(Le hx).1;obtain⟨Ac',cc',eAc,n1,n2,-,-⟩:=hcd.open_;obtain⟨x',g3,o3,hx',eA,hlt,hr3⟩:=hcd.at_ hil;rw[hx] at hx'
   cases hx'
   subst eA
   cases eAc
   obtain⟨A1,d1,A2,d2,-,-,-,-,i1,-⟩:=Yw hr3;have hN0:¬ ((N:Int)=0):=by omega
   have HX:=hid (show ∀ W',w4.grownBy W' none->W'.cell? ⟨ad2.1,2,none⟩=some (.int .i64 b.pt.2.2)/\W'.cell? ⟨g3,o3+b.pt.2.2*8+1,none⟩=some (.string ⟨x.dst.toArray⟩)/\W'.cell? ⟨w2.heap.size,0,none⟩=some (.int .u8 v.kind)/\W'.cell? ⟨w2.heap.size,1,none⟩=some (.int .i64 v.obj)/\W'.cell? ⟨w2.heap.size,2,none⟩=some (.int .i64 v.n) from fun W' hg=>⟨Zp hg ((Za t7).1 2),Zp hg i1,Zp hg v0,Zp hg v1,Zp hg v2⟩);have Hcode:=hid hcode;have Hn:=hid (fun (W':World) (hg:w4.grownBy W' none)=>show Calls Tryz.prog 175 #[.pointer (some ⟨g.m,0,none⟩),.string ⟨x.dst.toArray⟩,.agg #[.int .u8 v.kind,.int .i64 v.obj,.int .i64 v.n],.int .u8 0] W' _ from Vk HE.out (Q1.out.grow hg) hlb' hxa x.dst v 0);clear hcd hcode hlt hr3 i1 t1 t2 t3 t4 t5 t6 t7 t8 hx hf hy v0 v1 v2 hlb hlb' hne hip hxa;have hg:=Lb w4 none;go_upto_region 6 with (go_at_call 78;refine ht.mono ?_;rintro e w5 ⟨rfl,n5,hn5⟩;have hg:w4.grownBy w5 none:=hn5▸Zg hg n5;clear hn5)
   obtain⟨y1,y2,y3,y4,y5⟩:=HX.out _ hg;go_region_law ((first|(go_simp;go_at_call 81;first|(refine (Hcode.out _ (Zf hg)).mono ?_;rintro e w6 ⟨rfl,n6,hn6⟩;have hg6:w4.grownBy w6 none:=hn6▸Zg (Zf hg) n6;obtain⟨u1,u2,u3,u4,u5⟩:=HX.out _ hg6;clear hn6)|(refine (Hcode.out _ hg).mono ?_;rintro e w6 ⟨rfl,n6,hn6⟩;have hg6:w4.grownBy w6 none:=hn6▸Zg hg n6;obtain⟨u1,u2,u3,u4,u5⟩:=HX.out _ hg6;clear hn6))|(go_simp;go_at_call 175;first|(refine (Hn.out _ hg6).mono ?_;rintro e w7 ⟨rfl,hm,hs⟩;have Hm:=hid hm;have Hs2:=hid ((Q2.out.grow hg6).trans hs);clear hm hs)|(refine (Hn.out _ (Zf hg6)).mono ?_;rintro e w7 ⟨rfl,hm,hs⟩;have Hm:=hid hm;have Hs2:=hid ((Q2.out.grow (Zf hg6)).trans hs);clear hm hs))))
   all_goals (go_wp2_with fail;go_end0)
   all_goals
    rw[Hr.out];exact⟨rfl,_,Hm.out,Hs2.out⟩
end

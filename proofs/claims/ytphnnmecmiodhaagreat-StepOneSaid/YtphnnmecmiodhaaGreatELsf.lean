/- gnomonref14.Same at equal facts; condition: the rows lie in memory. -/
import Derived.Test.YtphnnmecmiodhaaGreatESf
import Derived.BigRegion
set_option maxHeartbeats 4000000
set_option maxRecDepth 100000
set_option linter.unusedVariables false
set_option linter.unusedSimpArgs false
namespace Go.Proofs.YtphnnmecmiodhaaGreat
open Lib(hid)
section
open Go.RowKit Go.Shelf
theorem Zxd {w:World} {base:Nat} {v:Value} {q:GPt} {L:List (Int×Nat)} (h:w.ownsRow base 93 5 v L.length (L.flatMap (Zwq q))) {i:Nat} {x:Int×Nat} (hx:L[i]?=some x):∃ G c,v=.slice (some ⟨G,0,none⟩) L.length c∧
  ∀ W',w.grownBy W' none→W'.cell? ⟨G,i*5,none⟩=some (.int .i64 q.1)∧W'.cell? ⟨G,i*5+1,none⟩=some (.int .i64 q.2.1)∧W'.cell? ⟨G,i*5+2,none⟩=some (.int .i64 q.2.2)∧W'.cell? ⟨G,i*5+3,none⟩=some (.int .i64 x.1)∧W'.cell? ⟨G,i*5+4,none⟩=some (.int .i64 x.2):=by
 have hil:=(List.getElem?_eq_some_iff.1 hx).1;obtain⟨A,c,rfl,-,-,h3,h4⟩:=Zz h
 cases A with
 |none=>have:=(h3 rfl).1;omega
 |some b=>
  obtain⟨e,-,-⟩:=h4 b rfl;rw[e] at h ⊢;obtain⟨-,-,-,-,h6⟩:=Xm h;have key:∀ j u,j<5→(Zwq q x)[j]?=some u→w.cell? ⟨b.block,i*5+j,none⟩=some u:=fun j u hj hu=>h6 (i*5+j) u (by rw[Qz (sz:=5) (fun _ _=>rfl) hx hj];exact hu)
  exact⟨b.block,c,rfl,fun W' hg=>⟨Zp hg (key 0 _ (by omega) rfl),Zp hg (key 1 _ (by omega) rfl),Zp hg (key 2 _ (by omega) rfl),Zp hg (key 3 _ (by omega) rfl),Zp hg (key 4 _ (by omega) rfl)⟩⟩
theorem Zyq (L:List (Int×Nat)) (q:GPt) (v1 v2:Value) (w:World) (b1 b2:Nat) (h1:w.ownsRow b1 93 5 v1 L.length (L.flatMap (Zwq q))) (h2:w.ownsRow b2 93 5 v2 L.length (L.flatMap (Zwq q))):Calls Tryz.prog 43 #[v1,v2] w fun e w'=>e=.returned (.bool true)∧w.grownBy w' none:=by
 have H1:=hid h1;have H2:=hid h2;obtain⟨A1,c1,rfl,u1,u2,-,-⟩:=Zz h1;obtain⟨A2,c2,rfl,-,-,-,-⟩:=Zz h2;have hn:L.length≤9223372036854775807:=by unfold maxLen at u2;omega
 clear h1 h2 u1 u2;go_enter Tryz.func43,Tryz.ntmps43;go_wp2;go_loopw [5] (fun s5 wr=>∃ i:Nat,i≤L.length∧s5=.int .i64 i∧Hid (w.grownBy wr none)) (fun s5 _=>L.length-(intOf s5).toNat)
 case atStart=>exact⟨0,Nat.zero_le _,rfl,World.grownBy.refl _ _⟩
 case round=>
  obtain⟨i,hi,rfl,hg⟩:=hrel
  by_cases hil:i<L.length
  ·obtain⟨x,hx⟩:∃ x,L[i]?=some x:=⟨_,List.getElem?_eq_getElem hil⟩
   obtain⟨G1,k1,e1,f1⟩:=Zxd H1.out hx;obtain⟨G2,k2,e2,f2⟩:=Zxd H2.out hx;injection e1 with e1 e1' e1''
   injection e2 with e2 e2' e2''
   subst e1 e2;clear e1' e1'' e2' e2'' hx;obtain⟨a0,a1,a2,a3,a4⟩:=f1 wr hg.out;obtain⟨d0,d1,d2,d3,d4⟩:=f2 wr hg.out;clear f1 f2;go_upto_region 6 with (fail)
   go_quiet (fail);go_wp2_with fail;go_roundw
   case rel=>exact⟨i+1,by omega,by go_num,Zg hg.out nq⟩
   case measure=>simp[intOf];omega
  ·obtain rfl:i=L.length:=by omega
   go_wp2_with fail;go_ret;exact⟨rfl,hg.out⟩
end
section
open Go.RowKit Go.Shelf
theorem Zya (p:GProg) (vp:Value) (w:World) (B:Nat) (hB:B≤w.heap.size) (h:ProgAt w B vp p) {pf pb pi:Nat} {f:GFun} {y:GBlk} {x:GIns} (hf:p[pf]?=some f) (hy:f.blocks[pb]?=some y) (hx:y.code[pi]?=some x) (ho:x.op=12∨x.op=13):
  Calls Tryz.prog 42 #[.agg #[vp],.agg #[.int .i64 pf,.int .i64 pb,.int .i64 pi]] w fun e w'=>e=.returned (.bool true)∧w.grownBy w' none:=by
 obtain⟨A,c,rfl,m1,m2,m3,-⟩:=h.open_;have hil:=(List.getElem?_eq_some_iff.1 hf).1;obtain⟨f',b1,o1,hf',rfl,hl1,hr1⟩:=h.at_ hil;rw[hf] at hf'
 cases hf'
 obtain⟨A1,d1,A2,d2,hF,n1,n2,e0,e1,e2⟩:=Yh hr1;have hbl:=(List.getElem?_eq_some_iff.1 hy).1;obtain⟨q1,q2,q3,q4,q5,q6,q7⟩:=hF.blocks.open_
 cases q3
 obtain⟨y',b2,o2,hy',rfl,hl2,hr2⟩:=hF.blocks.at_ hbl;rw[hy] at hy'
 cases hy'
 obtain⟨A3,d3,hBk,n3,e3,e4⟩:=Yg hr2;have hcl:=(List.getElem?_eq_some_iff.1 hx).1;obtain⟨r1,r2,r3,r4,r5,r6,r7⟩:=hBk.code.open_
 cases r3
 obtain⟨x',b3,o3,hx',rfl,hl3,hr3⟩:=hBk.code.at_ hcl;rw[hx] at hx'
 cases hx'
 obtain⟨A7,d7,A8,d8,hI,v1,v2,i0,i1,i2,i3,i4,i5,i6,i7⟩:=Yw hr3;obtain⟨W,hW⟩:∃ W:World,W=(w.alloc (.cells #[.slice (some ⟨b1,o1,none⟩) p.length c] 47)).alloc (.cells #[.int .i64 pf,.int .i64 pb,.int .i64 pi] 41):=⟨_,rfl⟩
 have hg:w.grownBy W none:=by rw[hW];exact Zd (World.grownBy_alloc _ _ _) _
 have hs:W.heap.size=w.heap.size+2:=by rw[hW];simp
 have hb0:W.heap[w.heap.size]?=some (.cells #[.slice (some ⟨b1,o1,none⟩) p.length c] 47 (0,0)):=by rw[hW];exact Zc (World.alloc_heap_new _ _) _
 have hb1:W.heap[w.heap.size+1]?=some (.cells #[.int .i64 pf,.int .i64 pb,.int .i64 pi] 41 (0,0)):=by
  have:=World.alloc_heap_new (w.alloc (.cells #[.slice (some ⟨b1,o1,none⟩) p.length c] 47)) (.cells #[.int .i64 pf,.int .i64 pb,.int .i64 pi] 41);simp only[World.size_alloc] at this;rw[hW];exact this
 have z0:=(Za hb0).1 0;have y0:=(Za hb1).1 0;have y1:=(Za hb1).1 1;have y2:=(Za hb1).1 2;replace e2:=Zp hg e2;replace e4:=Zp hg e4;replace i0:=Zp hg i0;replace i1:=Zp hg i1;replace i2:=Zp hg i2;replace i3:=Zp hg i3;replace i4:=Zp hg i4;replace i5:=Zp hg i5;replace i6:=Zp hg i6;replace i7:=Zp hg i7;obtain⟨u,hu⟩:∃ u,u=w.heap.size:=⟨_,rfl⟩
 rw[←hu] at hb0 hb1 z0 y0 y1 y2;have k1:b1<W.heap.size:=by omega
 have k2:b2<W.heap.size:=by omega
 have k3:b3<W.heap.size:=by omega
 have k4:u<W.heap.size:=by omega
 have k5:u+1<W.heap.size:=by omega
 have j1:b1<W.heap.size+1:=by omega
 have j2:b2<W.heap.size+1:=by omega
 have j3:b3<W.heap.size+1:=by omega
 have j4:u<W.heap.size+1:=by omega
 have j5:u+1<W.heap.size+1:=by omega
 have Hg:=hid hg;have Ho:=hid ho;clear h hf hy hx hr1 hr2 hr3 hF hBk hI e0 e1 e3 hg hb0 hb1 hs hl1 hl2 hl3 q7 r7 ho;go_enter Tryz.func42,Tryz.ntmps42;go_upto_region 1 with (fail)
 rw[←hu,←hW];clear hW hu;go_cut [5] (fun s5 wx=>∃ bq:Nat,s5=.pointer (some ⟨bq,0,none⟩)∧Hid (W.grownBy wx none)∧Hid (wx.cell? ⟨bq,0,none⟩=some (.int .u8 x.op)))
 case first=>
  go_region
  all_goals (go_wp2_with fail;go_meet)
  all_goals exact⟨_,rfl,hid (Zf (World.grownBy_alloc _ _ _)),hid (Zp (Zf (World.grownBy.refl _ _)) ((Za (World.alloc_heap_new W (.cells #[.int .u8 x.op,.string ⟨x.dst.toArray⟩,.string ⟨x.a.toArray⟩,.string ⟨x.b.toArray⟩,.int .i64 x.n,.string ⟨x.fn.toArray⟩,.slice A7 x.args.length d7,.slice A8 x.labels.length d8] 25))).1 0))⟩
 case rest=>
  obtain⟨bq,rfl,hgx,hcx⟩:=hcut;replace hcx:=hcx.out;clear e2 e4 i0 i1 i2 i3 i4 i5 i6 i7 z0 y0 y1 y2
  rcases Ho.out with h|h
  ·rw[h] at hcx;go_wp2_with fail;go_ret;exact⟨by first|rfl|simp,Zb Hg.out hgx.out⟩
  ·rw[h] at hcx;go_wp2_with fail;go_ret;exact⟨by first|rfl|simp,Zb Hg.out hgx.out⟩
end
end Go.Proofs.YtphnnmecmiodhaaGreat

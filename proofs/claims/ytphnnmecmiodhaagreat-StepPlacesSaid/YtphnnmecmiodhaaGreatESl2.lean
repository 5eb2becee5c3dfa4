/- The machine of package step. Conditions in it. -/
import Derived.Test.YtphnnmecmiodhaaGreatESitN
import Derived.Test.YtphnnmecmiodhaaGreatEStMv
set_option maxHeartbeats 4000000
set_option maxRecDepth 100000
set_option linter.all false
namespace Go.Proofs.YtphnnmecmiodhaaGreat
open Lib(hid)
section
open Go.RowKit Go.Shelf
theorem Zsq {lo m:Nat} {p:GProg} {w:World} (h:MapL lo w m p) (hok:CpOk p):Calls Tryz.prog 23 #[.pointer (some ⟨m,0,none⟩)] w fun e w'=>∃ (A:Option Addr) (c:Nat),e=.returned (.agg #[.slice A p.length c])/\(∀ W B',SupI (w.heap.size+1) w' W B'->ProgAt W B' (.slice A p.length c) p)/\w.grownBy w' none:=by
 obtain⟨A,c,vt,ft,mb,AS,cS,AO,cO,AP,cP,hO⟩:=h.open_;obtain⟨W,hW⟩:∃ W:World,W=w.alloc (.cells #[.slice none 0 0] 47):=⟨_,rfl⟩
 have hg:w.grownBy W none:=by rw[hW];exact Lc _ _ _
 have hb:W.heap[w.heap.size]?=some (.cells #[.slice none 0 0] 47 (0,0)):=by rw[hW];exact La _ _
 have hs:W.heap.size=w.heap.size+1:=by rw[hW];simp
 have hp:=Zdv p _ W w.heap.size hg.size (hO.prog.below funR.keeps (Zk hg) (Lf _)) hok;have c0:W.cell? ⟨m,0,none⟩=some (.slice A p.length c):=(Za ((hg.block m (Ze hO.blk) (by simp)).trans hO.blk)).1 0;have Hg:=hid hg;have Hb:=hid hb;have Hs:=hid hs;clear h hO hg hb hs;go_enter Tryz.func23,Tryz.ntmps23;go_upto_region 1 with (fail)
 rw[<-hW];clear hW;go_upto_region 3 with (fail)
 go_wp2_with (go_at_call 65;refine hp.mono ?_;rintro e w2 ⟨v',rfl,-,h2,h3⟩;obtain⟨A4,c4,rfl,-,-,-,-⟩:=(h2 _ _ (SupI.refl _ _)).open_;have hb2:=(h3.block _ (Ze Hb.out) (by simp)).trans Hb.out;have f0:=(Za hb2).2 0;have b0:=(Za hb2).1 0;have H2:=hid h2;have H3:=hid h3;have Hb2:=hid hb2;clear h2 h3 hb2);obtain⟨wf,hwf⟩:∃ wf:World,wf=w2.setCell ⟨w.heap.size,0,none⟩ (.slice A4 p.length c4):=⟨_,rfl⟩
 rw[<-hwf];have hbf:=hwf▸Zs Hb2.out 0 (.slice A4 p.length c4);have u0:=(Za hbf).1 0;have hc:Chg (fun n=>n=w.heap.size) w2 wf:=by rw[hwf];exact Chg.set (Q:=fun n=>n=w.heap.size) w2 (p:=⟨w.heap.size,0,none⟩) rfl _
 refine bodyPost_ret (v:=.agg #[.slice A4 p.length c4]) (by simp[results,Tryz.results23,go_sem,u0]) rfl ⟨A4,c4,rfl,fun W' B' hs'=>H2.out W' B' ?_,Chg.after (Zb Hg.out H3.out) hc (fun n hn q=>by omega)⟩;rw[Hs.out];exact hs'.chg hc (fun n h1 h2 q=>by omega)
def NewOut (p:GProg) (w:World) (e:Ending) (w':World):Prop:=∃ (wB:Bs) (lo ms:Nat) (vp:Value) (g:SAd),e=.returned (.tuple #[.pointer (some ⟨g.m,0,none⟩),.int .i64 0])/\StE wB lo ms vp p/\Ma wB ms vp w' g (gm0 p)/\wB.lo0=w.heap.size/\w.heap.size<=wB.h0/\w.heap.size<=wB.heap.size/\w.grownBy w' none
theorem Zmn {w:World} {base g t:Nat} {u:Value} (hb:w.heap[g]?=some (.cells #[u] t (0,0))) (hg:base<=g):w.ownsRow base t 1 (.slice (some ⟨g,0,none⟩) 1 1) 1 [u]:=
 ⟨rfl,.inr ⟨g,1,#[u],rfl,hg,hb,Lf _,by unfold maxLen;omega,rfl,rfl⟩⟩
theorem Znc (p:GProg) (vp:Value) (w:World) (B:Nat) (hB:B<=w.heap.size) (h:ProgAt w B vp p) (hne:(Y5 p).1≠0):
  Calls Tryz.prog 31 #[.agg #[vp]] w fun e w'=>e=.returned (.tuple #[.pointer none,.int .i64 5])/\w.grownBy w' none:=by
 obtain⟨A,c,rfl,hm,_,_,_⟩:=h.open_;obtain⟨W,hW⟩:∃ W:World,W=w.alloc (.cells #[.slice A p.length c] 47):=⟨_,rfl⟩
 have hg:w.grownBy W none:=by rw[hW];exact Lc _ _ _
 have hb:W.heap[w.heap.size]?=some (.cells #[.slice A p.length c] 47 (0,0)):=by rw[hW];exact La _ _
 have c0:W.cell? ⟨w.heap.size,0,none⟩=some (.slice A p.length c):=(Za hb).1 0;have hnew:=Zkd p _ W B (Nat.le_trans hB hg.size) (h.below funR.keeps (Zk hg) hB) hne;have Hg:=hid hg;clear h hg hb hne;go_enter Tryz.func31,Tryz.ntmps31;go_upto_region 1 with (fail)
 rw[<-hW];clear hW;go_wp2_with (go_at_call 22;refine hnew.mono ?_;rintro e w3 ⟨rfl,hg3⟩);go_ret2;exact⟨by first|rfl|simp,Zb Hg.out hg3⟩
theorem Zgx (p:GProg) (vp:Value) (w:World) (B:Nat) (hB:B<=w.heap.size) (h:ProgAt w B vp p) (hz:(Y5 p).1=0):Calls Tryz.prog 31 #[.agg #[vp]] w (NewOut p w):=by
 have hok:=Zjs (Jt hz);obtain⟨A,c,rfl,hm,_,_,_⟩:=h.open_;obtain⟨W,hW⟩:∃ W:World,W=w.alloc (.cells #[.slice A p.length c] 47):=⟨_,rfl⟩
 have hg:w.grownBy W none:=by rw[hW];exact Lc _ _ _
 have hb:W.heap[w.heap.size]?=some (.cells #[.slice A p.length c] 47 (0,0)):=by rw[hW];exact La _ _
 have c0:W.cell? ⟨w.heap.size,0,none⟩=some (.slice A p.length c):=(Za hb).1 0;have hnew:=Zkc p _ W B (Nat.le_trans hB hg.size) (h.below funR.keeps (Zk hg) hB) hok hz;have Hg:=hid hg;have Hz:=hid hz;clear h hg hb hz;go_enter Tryz.func31,Tryz.ntmps31;go_upto_region 1 with (fail)
 rw[<-hW];clear hW;go_upto_region 2 with (go_at_call 22;refine hnew.mono ?_;rintro e w1 ⟨ms,rfl,hM,hg1⟩)
 have hn:=Zuq w1;have hg12:w1.grownBy (w1.alloc (.cells #[.slice none 0 0,.int .i64 0,.int .i64 16384] 197)) none:=Lc _ _ _;have hp:=Zsq (hM.grown hg12) hok;obtain⟨w2,hw2⟩:∃ w2,w2=w1.alloc (.cells #[.slice none 0 0,.int .i64 0,.int .i64 16384] 197):=⟨_,rfl⟩
 rw[<-hw2] at hn hp hg12;have Hg1:=hid hg1;have HM:=hid hM;have Hw2:=hid (And.intro (show w2.heap.size=w1.heap.size+1 by rw[hw2];simp) hg12);clear c0 hnew hg1 hM hw2 hg12;go_upto_region 4 with (fail)
 go_upto_region 5 with (first
                        |(go_at_call 76;refine hn.mono ?_;rintro e w2' ⟨rfl,hH,rfl⟩;have HH:=hid hH;clear hH hn)
                        |(go_at_call 23;refine hp.mono ?_;rintro e w3 ⟨A3,c3,rfl,hq2,hg3⟩;have HQ:=hid hq2;have Hg3:=hid hg3;clear hp hq2 hg3)
                        |(go_at_call 77;refine (Znz w3).mono ?_;rintro e w4 ⟨dg,rfl,hd,hdl,hg4⟩;have Hd:=hid (And.intro hd (And.intro hdl hg4));clear hd hdl hg4))
 obtain⟨C5,hC5⟩:∃ C5:Array Value,C5= #[.pointer (some ⟨ms,0,none⟩),.pointer (some ⟨w1.heap.size,0,none⟩),.slice none 0 0,.int .u8 0,.int .i64 0,.int .i64 0,.int .i64 0,.int .i64 0,.bool false,.int .i64 0,.slice A3 p.length c3,.map (some dg)]:=⟨_,rfl⟩
 obtain⟨w5,hw5⟩:∃ w5,w5=w4.alloc (.cells C5 145):=⟨_,rfl⟩
 rw[<-hC5,<-hw5];have hg45:w4.grownBy w5 none:=by rw[hw5];exact Lc _ _ _
 have hb5:w5.heap[w4.heap.size]?=some (.cells C5 145 (0,0)):=by rw[hw5];exact La _ _
 have Hg15:=hid (Zb Hw2.out.2 (Zb Hg3.out (Zb Hd.out.2.2 hg45)));have hfn:=J8 (HM.out.grown Hg15.out) mainS;obtain⟨fm,hfm⟩:∃ fm,fm=ixK (Zy p p.length) mainS:=⟨_,rfl⟩
 rw[<-hfm] at hfn;have Hfm:=hid hfm;have HC5:=hid hC5;have Hb5:=hid hb5;have Hg45:=hid hg45;clear hw5 hC5 hg45 hb5 hfm;go_upto_region 6 with (go_at_call 37;refine hfn.mono ?_;rintro e w6 ⟨rfl,hg6⟩)
 obtain⟨m,hm⟩:∃ m,m=w4.heap.size:=⟨_,rfl⟩
 rw[<-hm] at Hb5 ⊢;have hb6:=(hg6.block _ (Ze Hb5.out) (by simp)).trans Hb5.out;have f2:=(Za hb6).2 2;have c2:w6.cell? ⟨m,2,none⟩=some (.slice none 0 0):=by rw[(Za hb6).1 2,HC5.out];rfl
 have hml:m<w6.heap.size:=Ze hb6;have hml1:m<w6.heap.size+1:=by omega
 have hml2:m<w6.heap.size+1+1:=by omega
 have hmn:m≠w6.heap.size:=by omega
 have hmn1:m≠w6.heap.size+1:=by omega
 have hmn2:m≠w6.heap.size+1+1:=by omega
 have hmk:∀ w:World,(Instr.makeMap 147 none).run Tryz.prog w=.ok (.map (some w.heap.size)) (w.alloc (Z7 encZ Yf ([]:List (Int×GVal)))):= @run_makeMap Tryz.prog 147;have Hm:=hid hm;have Hb6:=hid hb6;have Hg6:=hid hg6;clear hm hb6 hfn hg6;go_upto_region 7 with (fail)
 obtain⟨K,hK⟩:∃ K,K=w6.heap.size:=⟨_,rfl⟩
 rw[<-hK];obtain⟨w7,hw7⟩:∃ w7,w7=w6.setCell ⟨m,2,none⟩ (.slice (some ⟨K+1+1,0,none⟩) 1 1):=⟨_,rfl⟩
 rw[<-hw7];have hb7:=hw7▸Zs Hb6.out 2 (.slice (some ⟨K+1+1,0,none⟩) 1 1);have hc7:Chg (fun n=>n=m) w6 w7:=by rw[hw7];exact Chg.set (Q:=fun n=>n=m) w6 (p:=⟨m,2,none⟩) rfl _
 have hs7:w7.heap.size=K:=by rw[hw7,hK];simp
 obtain⟨wf,hwf⟩:∃ wf,wf=((w7.alloc (Z7 encZ Yf ([]:List (Int×GVal)))).alloc (.cells #[.int .i64 fm,.int .i64 0,.int .i64 0,.map (some K)] 149)).alloc (.cells #[.pointer (some ⟨K+1,0,none⟩)] 146):=⟨_,rfl⟩
 rw[<-hwf];have hgf:w7.grownBy wf none:=by rw[hwf];exact Zd (Zd (Lc _ _ _) _) _
 have d0:wf.heap[K]?=some (Z7 encZ Yf ([]:List (Int×GVal))):=by
  rw[hwf,<-hs7];exact Zc (Zc (La _ _) _) _
 have d1:wf.heap[K+1]?=some (.cells #[.int .i64 fm,.int .i64 0,.int .i64 0,.map (some K)] 149 (0,0)):=by
  have:=La (w7.alloc (Z7 encZ Yf ([]:List (Int×GVal)))) (.cells #[.int .i64 fm,.int .i64 0,.int .i64 0,.map (some K)] 149);simp only[World.size_alloc,hs7] at this;rw[hwf];exact Zc this _
 have d2:wf.heap[K+1+1]?=some (.cells #[.pointer (some ⟨K+1,0,none⟩)] 146 (0,0)):=by
  have:=La ((w7.alloc (Z7 encZ Yf ([]:List (Int×GVal)))).alloc (.cells #[.int .i64 fm,.int .i64 0,.int .i64 0,.map (some K)] 149)) (.cells #[.pointer (some ⟨K+1,0,none⟩)] 146);simp only[World.size_alloc,hs7] at this;rw[hwf];exact this
 have hbf:=(hgf.block _ (Ze hb7) (by simp)).trans hb7;have s1:=Hg.out.size;have s2:=Hg1.out.size;have s3:=Hw2.out.1;have s4:=Hg3.out.size;have s5:=Hd.out.2.1;have s6:=Hd.out.2.2.size;have s7:=Hm.out;have s8:=Hg45.out.size;have s9:=Hg6.out.size;have hg36:w3.grownBy w6 none:=Zb Hd.out.2.2 (Zb Hg45.out Hg6.out);have h3f:Chg (fun n=>n=m) w3 wf:=((Chg.grown (Q:=fun n=>n=m) hg36 (fun r e=>by cases e)).trans hc7 (fun _ _ e=>e)).trans (Chg.grown (Q:=fun n=>n=m) hgf (fun r e=>by cases e)) (fun _ _ e=>e);have h4f:Chg (fun n=>n=m) w4 wf:=((Chg.grown (Q:=fun n=>n=m) (Zb Hg45.out Hg6.out) (fun r e=>by cases e)).trans hc7 (fun _ _ e=>e)).trans (Chg.grown (Q:=fun n=>n=m) hgf (fun r e=>by cases e)) (fun _ _ e=>e);have hwm:w3.heap.size<=m:=by omega
 have hHf:HpAt wf w3.heap.size ⟨w1.heap.size,.slice none 0 0,[]⟩ []:=(HH.out w3.heap.size).chg ((Chg.grown (Q:=fun n=>n=m) Hg3.out (fun r e=>by cases e)).trans h3f (fun _ _ e=>e)) (fun n hn e=>by
  rcases hn with rfl|hn|⟨o,ho,_⟩
  ·simp only at e;omega
  ·cases hn
  ·cases ho)
 have hdl:=Ze Hd.out.1;have hMa:Ma ⟨w3,w.heap.size,w1.heap.size⟩ ms (.slice A3 p.length c3) wf ⟨m,⟨w1.heap.size,.slice none 0 0,[]⟩,.slice (some ⟨K+1+1,0,none⟩) 1 1,[(K+1,K)],0,dg⟩ (gm0 p):=by
  refine⟨h3f.mono fun n _ e=>.inl (by subst e;exact hwm),?_,hwm,hHf,rfl,Zmn d2 (by show w3.heap.size<=_;omega),fun i a x h1 h2=>?_,by simp,by simp,h4f.at_ Hd.out.1 (fun e=>by have e2:dg=m:=e;omega),s5,rfl⟩
  ·rw[hbf,HC5.out];rfl
  ·cases i with
   |zero=>
    simp only[gm0,List.getElem?_cons_zero,Option.some.injEq] at h1 h2;subst h1 h2;refine⟨by show w3.heap.size<=_;omega,by show w3.heap.size<=_;omega,?_,d0⟩;rw[<-Hfm.out];exact d1
   |succ i=>simp at h1
 have hE:StE ⟨w3,w.heap.size,w1.heap.size⟩ W.heap.size ms (.slice A3 p.length c3) p:=by
  refine⟨fun W' hc=>?_,fun W' hc=>HQ.out W' _ fun n h1 h2=>⟨h2,hc.block n h2 fun q=>?_⟩,Zph Hz.out⟩
  ·refine HM.out.chg ((Chg.grown (Q:=Bs.Fr ⟨w3,w.heap.size,w1.heap.size⟩) (Zb Hw2.out.2 Hg3.out) (fun r e=>by cases e)).trans hc (fun _ _ e=>e)) fun n h1 h2 q=>?_
   rcases q with q|q|q
   ·have:w3.heap.size<=n:=q;omega
   ·have:n<w.heap.size:=q;omega
   ·have:n=w1.heap.size:=q;omega
  ·rcases q with q|q|q
   ·have:w3.heap.size<=n:=q;have:n<w3.heap.size:=h2;omega
   ·have:n<w.heap.size:=q;omega
   ·have:n=w1.heap.size:=q;omega
 have hgr:w.grownBy wf none:=Chg.after (Zb Hg.out (Zb Hg1.out (Zb Hw2.out.2 (Zb Hg3.out hg36)))) (hc7.trans (Chg.grown (Q:=fun n=>n=m) hgf (fun r e=>by cases e)) (fun _ _ e=>e)) (fun n hn q=>by omega);have HF:=hid (And.intro hE (And.intro hMa hgr));have Hs:=hid (show w.heap.size<=w1.heap.size/\w.heap.size<=w3.heap.size by omega);clear hE hMa hgr hHf hb7 hc7 hs7 hwf hgf d0 d1 d2 hbf s1 s2 s3 s4 s5 s6 s7 s8 s9 hg36 h3f h4f hwm hdl hw7 hmk hml hml1 hml2 hmn hmn1 hmn2 f2 c2;go_wp2;go_ret2;exact⟨_,_,_,_,_,by first|rfl|simp,HF.out.1,HF.out.2.1,rfl,Hs.out.1,Hs.out.2,HF.out.2.2⟩
end
section
open Go.RowKit Go.Shelf
structure TwoI (p:GProg) (w0 wS:World) (loS:Nat) (wB:Bs) (ms:Nat) (vp:Value) (W:World) (g:SAd) (s:GM):Prop where
 ma:Ma wB ms vp W g s
 ok:GMOk p s
 base:Chg (fun n=>w0.heap.size<=n) w0 W
 map:Chg (fun n=>n<loS\/wS.heap.size<=n) wS W
 own:∀ n,SQ g n->w0.heap.size<=n/\(n<loS\/wS.heap.size<=n)
 le:wB.heap.size<=wS.heap.size/\w0.heap.size<=wS.heap.size/\g.dg<wS.heap.size
variable {p:GProg} {w0 wS:World} {loS lo ms mS:Nat} {wB:Bs} {vp:Value} {W W':World} {g:SAd} {s:GM}
theorem TwoI.start {w1:World} (hg0:w0.grownBy w1 none) {w2:World} (h:Ma wB ms vp w2 g s) (hK:GMOk p s) (h1:w1.heap.size<=wB.h0) (h2:w1.heap.size<=wB.heap.size) (hg1:w1.grownBy w2 none) (hg2:w2.grownBy wS none):TwoI p w0 wS w2.heap.size wB ms vp wS g s where
 ma:=h.grow hg2
 ok:=hK
 base:=Chg.grown (Zb hg0 (Zb hg1 hg2)) (fun r e=>by cases e)
 map:=Chg.refl _ _
 own:=fun n hn=>⟨by
  have h3:=(h.ty hn).1
  have h4:=hg0.size
  omega,.inl (h.lt hn)⟩
 le:=⟨Nat.le_trans h.chg.size hg2.size,by have:=hg0.size;have:=hg1.size;have:=hg2.size;omega,by
  have:=Ze h.doing
  have:=hg2.size
  omega⟩
theorem TwoI.other {Q:Nat->Prop} (h:TwoI p w0 wS loS wB ms vp W g s) (hc:Chg Q W W') (hq:∀ n,Q n->¬ SQ g n/\wS.heap.size<=n):TwoI p w0 wS loS wB ms vp W' g s where
 ma:=h.ma.other hc (fun n hn q=>(hq n q).1 hn) (fun q=>by have:=(hq _ q).2;have:=h.le;omega) (fun n q=>.inl (by have:=(hq _ q).2;have:=h.le;omega))
 ok:=h.ok
 base:=h.base.trans hc (fun n _ q=>by have:=(hq _ q).2;have:=h.le;omega)
 map:=h.map.trans hc (fun n _ q=>.inr (hq _ q).2)
 own:=h.own
 le:=h.le
theorem TwoI.grow (h:TwoI p w0 wS loS wB ms vp W g s) (hg:W.grownBy W' none):TwoI p w0 wS loS wB ms vp W' g s:=
 h.other (Chg.grown (Q:=fun _=>False) hg (fun r e=>by cases e)) (fun _ q=>q.elim)
theorem TwoI.mapAt (h:TwoI p w0 wS loS wB ms vp W g s) (hM:MapL loS wS mS p):MapL loS W mS p:=hM.chg h.map (fun n h1 h2 q=>by omega)
theorem TwoI.acts (h:TwoI p w0 wS loS wB ms vp W g s) (h0:s.stop=0):∃ l a,s.acts=l++[a]:=Zfc fun e=>by
 have:=h.ok.done.1 e;omega
theorem TwoI.step {g':SAd} {s':GM} (h:TwoI p w0 wS loS wB ms vp W g s) (hm:Ma wB ms vp W' g' s') (hs:Stp W g W' g') (hK:GMOk p s'):TwoI p w0 wS loS wB ms vp W' g' s' where
 ma:=hm
 ok:=hK
 base:=h.base.trans hs.chg (fun n _ q=>(h.own n q).1)
 map:=h.map.trans hs.chg (fun n _ q=>(h.own n q).2)
 own:=fun n hn=>by
  rcases hs.new n hn with q|q
  ·exact h.own n q
  ·have h1:=h.map.size;have h2:=h.le;omega
 le:=by rw[hs.dg];exact h.le
theorem TwoI.move (E:StE wB lo ms vp p) (h:TwoI p w0 wS loS wB ms vp W g s) (c:Int):
  Calls Tryz.prog 36 #[.pointer (some ⟨g.m,0,none⟩),.int .i64 c] W fun e w'=>e=.returned (.int .u8 (s.move p (decide (c % 2=1))).stop)/\∃ g',g'.m=g.m/\Stp W g w' g'/\TwoI p w0 wS loS wB ms vp w' g' (s.move p (decide (c % 2=1))):=by
 by_cases h0:s.stop=0
 ·obtain⟨l,a,ha⟩:=h.acts h0;refine (Zso E h.ma h.ok c h0 ha).mono ?_;rintro e w' ⟨rfl,g',hm,hs⟩;exact⟨rfl,g',hs.m,hs,h.step hm hs (h.ok.move E.ok E.snd h0 _ ha).1⟩
 ·have e:s.move p (decide (c % 2=1))=s:=by unfold GM.move;rw[if_neg h0]
  have:=Zov (p:=p) h.ma c h0;rw[e] at this ⊢;refine this.mono ?_;rintro e' w' ⟨rfl,g',hm,hs⟩;exact⟨rfl,g',hs.m,hs,h.step hm hs h.ok⟩
theorem GMOk.at_ins {l:List GAct} {a:GAct} (h:GMOk p s) (ha:s.acts=l++[a]):∃ f y,p[a.pt.1]?=some f/\f.bk9[a.pt.2.1]?=some y/\y.code[a.pt.2.2]?=some (Yp p a.pt):=by
 obtain⟨f,y,x,vs,fs,hf,hy,hx,-⟩:=(h.acts a (by rw[ha];simp)).at_;exact⟨f,y,hf,hy,by rw[Qj hf hy hx];exact hx⟩
end

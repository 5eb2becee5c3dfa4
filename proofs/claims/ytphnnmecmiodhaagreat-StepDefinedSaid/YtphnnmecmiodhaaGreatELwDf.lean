/- The contract of gnomonlaw14.StepDefined: it answers true. Condition: the program and the choices lie in memory. -/
import Derived.Test.YtphnnmecmiodhaaGreatEKs
set_option maxHeartbeats 8000000
set_option maxRecDepth 100000
set_option linter.unusedVariables false
set_option linter.unusedSimpArgs false
namespace Go.Proofs.YtphnnmecmiodhaaGreat
open Lib(hid)
open Go.RowKit Go.Shelf
theorem Zlj (p:GProg) (vp vc:Value) (cs:List Int) (B:Nat) (w:World) (hB:B≤w.heap.size) (h:ProgAt w B vp p) (hcs:SlAt intR 1 w B vc cs):
  Calls Tryz.prog 5 #[.agg #[vp],vc] w fun e w'=>e=.returned (.bool true)∧w.grownBy w' none:=by
 obtain⟨A,c,rfl,m1,m2,m3,-⟩:=h.open_;obtain⟨AC,cc,rfl,o1,o2,o3,-⟩:=hcs.open_;have hH:=Zqk hB h;obtain⟨W,hW⟩:∃ W:World,W=w.alloc (.cells #[.slice A p.length c] 47):=⟨_,rfl⟩
 rw[←hW] at hH;have hgr:=Zdt p _ W B (hH.le W (World.grownBy.refl _ _)) (hH.prog W (World.grownBy.refl _ _));have hc:=hH.cell W (World.grownBy.refl _ _);have HH:=hid hH;have HC:=hid hcs;have HB:=hid hB;clear h hcs hH;go_enter Tryz.func5,Tryz.ntmps5;go_upto_region 1 with (fail)
 rw[←hW];clear hW
 repeat go_step
 refine hgr.mono ?_;rintro e w1 ⟨bg,rfl,hg1⟩;have hc1:=HH.out.cell w1 hg1;have Hg1:=hid (Zb HH.out.grown hg1);clear hc hgr;have hwk:=fun (W':World)=>Xi W'
 cases bg with
 |true=>
  go_wp2_with (go_at_call 30;refine (Xi _).mono ?_;rintro e w2 ⟨rfl,hg2⟩);go_ret;exact⟨rfl,Zb Hg1.out hg2⟩
 |false=>
  by_cases h200:(200:Int)<(cs.length:Int)
  ·go_wp2_with (go_at_call 30;refine (Xi _).mono ?_;rintro e w2 ⟨rfl,hg2⟩);go_ret;exact⟨rfl,Zb Hg1.out hg2⟩
  ·by_cases hz:(Y5 p).1=0
   ·have hnew:=Zgx p _ w1 B (HH.out.le _ hg1) (HH.out.prog _ hg1) hz;go_upto_region 4 with (go_at_call 31;refine hnew.mono ?_;rintro e w2 ⟨wB,lo,ms,vq,g,rfl,hE,hM,l1,l2,l3,hg2⟩)
    have hc2:=HH.out.cell w2 (Zb hg1 hg2);have hnew2:=Zkc p _ w2 B (HH.out.le _ (Zb hg1 hg2)) (HH.out.prog _ (Zb hg1 hg2)) (Zjs (Jt hz)) hz;clear hnew hc1;go_upto_region 5 with (go_at_call 22;refine hnew2.mono ?_;rintro e wS ⟨mS,rfl,hS,hg3⟩)
    have hI:TwoI p w wS w2.heap.size wB ms vq wS g (gm0 p):=TwoI.start Hg1.out hM (Zoi (Jt hz)) l2 l3 hg2 hg3;have HI:=hid hI;have HE:=hid hE;have HS:=hid hS;have HN:=hid (And.intro (Jt hz) (Zph hz));clear hnew2 hM hS hE hI hc2 l1 l2 l3 hg1 hg2 hg3 hz;go_wp2_with fail;go_loopw [9] (fun s9 wr=>∃ i:Nat,i≤cs.length∧s9=.int .i64 i∧Hid (∃ g' s,g'.m=g.m∧TwoI p w wS w2.heap.size wB ms vq wr g' s)) (fun s9 _=>cs.length-(intOf s9).toNat)
    case atStart=>exact⟨0,Nat.zero_le _,rfl,g,_,rfl,HI.out⟩
    case round=>
     obtain⟨i,hi,rfl,hh⟩:=hrel;obtain⟨g',s,hgm,hI⟩:=hh.out;clear hh
     by_cases hil:i<cs.length
     ·obtain⟨ci,bC,oC,hci,hAC,hbC,hrC,-⟩:=HC.out.at_ hil;have hrC':∀ W',w.grownBy W' none→W'.cell? ⟨bC,oC+i,none⟩=some (.int .i64 ci):=fun W' hg=>by
       rw[Nat.mul_one] at hrC;exact (World.cell?_of_block (hg.block bC (Nat.lt_of_lt_of_le hbC HB.out) (by simp))).trans hrC
      have HrC:=hid hrC'
      cases hAC
      have hgW:=hid hI.grown;clear hrC hrC' hbC hci
      by_cases h0:s.stop=0
      ·obtain⟨l,a,ha⟩:=hI.acts h0;obtain⟨f,y,hf,hy,hx⟩:=hI.ok.at_ins ha;have hat:=Zql hI.ma ha h0;rw[hgm] at hat;obtain⟨z,hzd⟩:∃ z,z=Yp p a.pt:=⟨_,rfl⟩
       rw[←hzd] at hx;have Hz:=hid hzd;have HI1:=hid hI;have Ha:=hid ha;have HK:=hid (hI.ok.acts a (by rw[ha];simp));clear hI ha hzd h0;obtain⟨⟨pf,pb,pi⟩,hpt⟩:∃ q,q=a.pt:=⟨_,rfl⟩
       rw[←hpt] at hf hy hx hat;simp only at hf hy hx hat;have Hpt:=hid hpt;clear hpt;go_upto_region 14 with (go_at_call 32;refine hat.mono ?_;rintro e w3 ⟨rfl,hg3⟩)
       obtain⟨w4,hw4⟩:∃ w4,w4=w3.alloc (.cells #[.int .i64 pf,.int .i64 pb,.int .i64 pi] 41):=⟨_,rfl⟩
       rw[←hw4];have hg4:wr.grownBy w4 none:=by rw[hw4];exact Zd hg3 _
       have hb4:w4.heap[w3.heap.size]?=some (.cells #[.int .i64 pf,.int .i64 pb,.int .i64 pi] 41 (0,0)):=by rw[hw4];exact World.alloc_heap_new _ _
       have hins:=Zay ((HI1.out.grow hg4).mapAt HS.out) hf hy hx;simp only[insV] at hins;have Hb4:=hid hb4;have k0:=(Za hb4).1 0;have k1:=(Za hb4).1 1;have k2:=(Za hb4).1 2;clear hw4 hb4 hat hg3;go_upto_region 15 with (go_at_call 26;refine hins.mono ?_;rintro e w5 ⟨A5,d5,A6,d6,rfl,hIS,hg5⟩)
       obtain⟨w6,hw6⟩:∃ w6,w6=w5.alloc (.cells #[.int .u8 z.op,.string ⟨z.dst.toArray⟩,.string ⟨z.a.toArray⟩,.string ⟨z.b.toArray⟩,.int .i64 z.n,.string ⟨z.fn.toArray⟩,.slice A5 z.args.length d5,.slice A6 z.labels.length d6] 25):=⟨_,rfl⟩
       rw[←hw6];have hg56:w5.grownBy w6 none:=by rw[hw6];exact World.grownBy_alloc _ _ _
       have hb6:w6.heap[w5.heap.size]?=some (.cells #[.int .u8 z.op,.string ⟨z.dst.toArray⟩,.string ⟨z.a.toArray⟩,.string ⟨z.b.toArray⟩,.int .i64 z.n,.string ⟨z.fn.toArray⟩,.slice A5 z.args.length d5,.slice A6 z.labels.length d6] 25 (0,0)):=by rw[hw6];exact World.alloc_heap_new _ _
       have hu:=Znf z _ _ w6 w6.heap.size (hIS w6 _ fun n _ h2=>⟨Nat.lt_of_lt_of_le h2 hg56.size,hg56.block n h2 (by simp)⟩) (Nat.le_refl _);have y0:=(Za hb6).1 0;have y1:=(Za hb6).1 1;have y2:=(Za hb6).1 2;have y3:=(Za hb6).1 3;have y4:=(Za hb6).1 4;have y5:=(Za hb6).1 5;have y6:=(Za hb6).1 6;have y7:=(Za hb6).1 7;have Hg6:=hid (Zb hg4 (Zb hg5 hg56));have Hg46:=hid (Zb hg5 hg56);clear hw6 hb6 hins hIS k0 k1 k2 hg4 hg5 hg56;go_upto_region 16 with (go_at_call 33;refine hu.mono ?_;rintro e w7 ⟨v7,rfl,ho7,hb7⟩;obtain⟨A7,c7,rfl,hu7,hm7,hn7,hs7⟩:=Zz ho7)
       have Hg7:=hid (Zb Hg6.out (Zj hb7));have HQ:=hid (show ∀ W',w7.grownBy W' none→W'.cell? ⟨w3.heap.size,0,none⟩=some (.int .i64 pf) from fun W' hg=>Zp (Zb Hg46.out (Zb (Zj hb7) hg)) ((Za Hb4.out).1 0));have HO:=hid ho7;have Hn7:=hid (And.intro hn7 hs7);clear y0 y1 y2 y3 y4 y5 y6 y7 hu ho7 hb7 hn7 hs7 Hb4;obtain⟨U,hU⟩:∃ U,U=Kj z:=⟨_,rfl⟩
       rw[←hU] at HO Hn7 hu7;have hU7:U.length≤9223372036854775807:=by unfold maxLen at hm7;omega
       clear hu7 hm7;rw[←hU];have HU:=hid hU;clear hU;go_wp2_with fail;go_loopw [15] (fun s15 wi=>∃ k:Nat,k≤U.length∧s15=.int .i64 k∧Hid (w7.grownBy wi none)) (fun s15 _=>U.length-(intOf s15).toNat)
       case atStart=>exact⟨0,Nat.zero_le _,rfl,World.grownBy.refl _ _⟩
       case round=>
        obtain⟨k,hk,rfl,hgi⟩:=hrel
        by_cases hkl:k<U.length
        ·obtain⟨t,ht⟩:∃ t,U[k]?=some t:=⟨_,List.getElem?_eq_getElem hkl⟩
         cases A7 with
         |none=>have:=(Hn7.out.1 rfl).1;omega
         |some b7=>
          obtain⟨e7,-,-⟩:=Hn7.out.2 b7 rfl;obtain⟨G,hG⟩:∃ G,G=b7.block:=⟨_,rfl⟩
          rw[←hG] at e7;subst e7
          have HSc:=hid (show ∀ W',wr.grownBy W' none→W'.cell? ⟨w3.heap.size,0,none⟩=some (.int .i64 pf)∧W'.cell? ⟨G,k,none⟩=some (.string ⟨t.toArray⟩) from fun W' hg=>⟨HQ.out W' (Zb hgi.out hg),by
           obtain⟨-,-,-,-,h6⟩:=Xm HO.out
           exact Zp (Zb hgi.out hg) (h6 k _ (by rw[List.getElem?_map,ht];rfl))⟩)
          have hhas:=Zwh HN.out.1 HN.out.2 HK.out (s:=t) (by rw[←Hz.out,←HU.out];exact List.mem_of_getElem? ht);rw[←Hpt.out] at hhas;obtain⟨j,hj⟩:∃ j,j=Zag p (pf:Int) t:=⟨_,rfl⟩
          have hj2:j.2=true:=by rw[hj];exact Zng hhas.2
          have hj1:0≤j.1:=by rw[hj];exact hhas.2
          have hj3:(Z6 a.vars j.1).isSome=true:=by rw[hj];exact hhas.1
          have Hv:=hid (show ∀ W',wr.grownBy W' none→Calls Tryz.prog 34 #[.pointer (some ⟨mS,0,none⟩),.int .i64 pf,.string ⟨t.toArray⟩] W' fun e w'=>e=.returned (.tuple #[.int .i64 j.1,.bool true])∧W'.grownBy w' none from fun W' hg=>by
                            have:=Zbw ((HI1.out.grow (Zb (Zb Hg7.out hgi.out) hg)).mapAt HS.out) (pf:Int) t
                            rw[←hj,hj2] at this
                            exact this)
          have Hvm:=hid (show ∀ W',wr.grownBy W' none→Calls Tryz.prog 35 #[.pointer (some ⟨g.m,0,none⟩),.int .i64 j.1] W' fun e w'=>e=.returned (.tuple #[Yf ((Z6 a.vars j.1).getD nilV),.bool true])∧W'.grownBy w' none from fun W' hg=>by
                             have:=Ziw (HI1.out.grow (Zb (Zb Hg7.out hgi.out) hg)).ma Ha.out j.1
                             rw[hj3,hgm] at this
                             exact this)
          obtain⟨xv,hxv⟩:∃ xv,xv=(Z6 a.vars j.1).getD nilV:=⟨_,rfl⟩
          rw[←hxv] at Hvm;unfold Yf at Hvm;obtain⟨j1,j2⟩:=j;simp only at hj1 Hv Hvm;have hg:=World.grownBy.refl wr none;clear hhas hj hj2 hj3 hxv ht hG;go_upto_region 19 with (fail)
          go_region_held3 (fun W'=>W'.cell? ⟨w3.heap.size,0,none⟩=some (.int .i64 pf)∧W'.cell? ⟨G,k,none⟩=some (.string ⟨t.toArray⟩)) (first|exact HSc.out _ hg|exact HSc.out _ (Zf hg)) ((go_simp;go_at_call 34;first|(refine (Hv.out _ (Zf hg)).mono ?_;rintro e w8 ⟨rfl,hg8⟩;have hg:=Zb (Zf hg) hg8;clear hg8)|(refine (Hv.out _ hg).mono ?_;rintro e w8 ⟨rfl,hg8⟩;have hg:=Zb hg hg8;clear hg8)));have hj1':¬ j1<0:=by omega
          have hvm:=Hvm.out _ hg;have Hgi:=hid (Zb hgi.out hg);clear hg HSc Hv Hvm hgi;go_wp2_with (go_at_call 35;refine hvm.mono ?_;rintro e w9 ⟨rfl,hg9⟩;have Hg9:=hid hg9;clear hg9);go_roundw
          case rel=>exact⟨k+1,by omega,by go_num,Zd (Zb Hgi.out Hg9.out) _⟩
          case measure=>simp[intOf];omega
        ·obtain rfl:k=U.length:=by omega
         have hmv:=TwoI.move HE.out (HI1.out.grow (Zb Hg7.out hgi.out)) ci;rw[hgm] at hmv;have hrc:=HrC.out wr (Zb hgW.out (Zb Hg7.out hgi.out));clear HI1 HrC;go_wp2_with (go_at_call 36;refine hmv.mono ?_;rintro e w9 ⟨rfl,g9,hm9,-,hI9⟩;have Hn:=hid (show ∃ g' s,g'.m=g.m∧TwoI p w wS w2.heap.size wB ms vq w9 g' s from ⟨g9,_,hm9,hI9⟩);clear hm9 hI9);go_roundw
         case rel=>exact⟨i+1,by omega,by go_num,Hn.out⟩
         case measure=>simp[intOf];omega
      ·have hat:=Zvb hI.ma h0;rw[hgm] at hat;have HI1:=hid hI;clear hI;go_upto_region 25 with (go_at_call 32;refine hat.mono ?_;rintro e w3 ⟨rfl,hg3⟩)
       obtain⟨w4,hw4⟩:∃ w4,w4=w3.alloc (.cells #[.int .i64 0,.int .i64 0,.int .i64 0] 41):=⟨_,rfl⟩
       rw[←hw4];have hg4:wr.grownBy w4 none:=by rw[hw4];exact Zd hg3 _
       have hmv:=TwoI.move HE.out (HI1.out.grow hg4) ci;rw[hgm] at hmv;have hrc:=HrC.out w4 (Zb hgW.out hg4);clear HI1 HrC hw4 hg3 hg4 hat;go_wp2_with (go_at_call 36;refine hmv.mono ?_;rintro e w9 ⟨rfl,g9,hm9,-,hI9⟩;have Hn:=hid (show ∃ g' s,g'.m=g.m∧TwoI p w wS w2.heap.size wB ms vq w9 g' s from ⟨g9,_,hm9,hI9⟩);clear hm9 hI9);go_roundw
       case rel=>exact⟨i+1,by omega,by go_num,Hn.out⟩
       case measure=>simp[intOf];omega
     ·obtain rfl:i=cs.length:=by omega
      have Hg:=hid hI.grown;clear hI;go_wp2_with (go_at_call 30;refine (Xi _).mono ?_;rintro e w4 ⟨rfl,hg4⟩);go_ret;exact⟨rfl,Zb Hg.out hg4⟩
   ·have hnew:=Znc p _ w1 B (HH.out.le _ hg1) (HH.out.prog _ hg1) hz;go_upto_region 4 with (go_at_call 31;refine hnew.mono ?_;rintro e w2 ⟨rfl,hg2⟩)
    have hc2:=HH.out.cell w2 (Zb hg1 hg2);have hnew2:=Zkd p _ w2 B (HH.out.le _ (Zb hg1 hg2)) (HH.out.prog _ (Zb hg1 hg2)) hz;clear hnew hc1;go_upto_region 5 with (go_at_call 22;refine hnew2.mono ?_;rintro e w3 ⟨rfl,hg3⟩)
    clear hnew2 hc2;go_wp2_with (go_at_call 30;refine (Xi _).mono ?_;rintro e w4 ⟨rfl,hg4⟩);go_ret;exact⟨rfl,Zb Hg1.out (Zb hg2 (Zb hg3 hg4))⟩
end Go.Proofs.YtphnnmecmiodhaaGreat

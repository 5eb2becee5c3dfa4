/- package run, Run. Conditions in it. -/
import Derived.Test.YtphnnmecmiodhaaGreatERnc
import Derived.Deep.CutBlock
set_option maxHeartbeats 8000000
set_option maxRecDepth 100000
set_option linter.all false
namespace Go.Proofs.YtphnnmecmiodhaaGreat
open Lib(hid)
section
open Go.RowKit Go.Shelf
theorem Yda (p:GProg) (vp vc:Value) (cs:List Int) (B:Nat) (w:World) (hB:B<=w.heap.size) (h:ProgAt w B vp p) (hcs:SlAt intR 1 w B vc cs) (hz:(Y5 p).1=0):
  Calls Tryz.prog 53 #[.agg #[vp],vc] w (Ycr p cs w):=by
 obtain⟨A,c,rfl,m1,m2,m3,-⟩:=h.open_;obtain⟨AC,cc,rfl,o1,o2,o3,hcs⟩:=hcs.open_;have HC0:=hid (ChI.start hcs o2 o3);have hH:=Zqk hB h;obtain⟨W0,hW0⟩:∃ W:World,W=w.alloc (.cells #[.slice A p.length c] 47):=⟨_,rfl⟩
 rw[<-hW0] at hH;obtain⟨W,hW⟩:∃ W:World,W=W0.alloc (.cells #[.slice none 0 0,.slice none 0 0,.int .u8 0,.int .i64 0] 102):=⟨_,rfl⟩
 have hg0:W0.grownBy W none:=by rw[hW];exact Lc _ _ _
 have hb4:W.heap[W0.heap.size]?=some (.cells #[.slice none 0 0,.slice none 0 0,.int .u8 0,.int .i64 0] 102 (0,0)):=by rw[hW];exact La _ _
 have hc:=hH.cell W hg0;have hs0:W0.heap.size=w.heap.size+1:=by rw[hW0];simp
 have hnew:=Zgx p _ W B (hH.le W hg0) (hH.prog W hg0) hz;have HH:=hid hH;have HB:=hid hB;have Hg0:=hid hg0;have Hb4:=hid hb4;have hmm:∀ w:World,(Instr.makeMap 163 none).run Tryz.prog w=.ok (.map (some w.heap.size)) (w.alloc (Z7 Zze Value.bool [])):= @run_makeMap Tryz.prog 163;have hmc:∀ w:World,(Instr.makeMap 164 none).run Tryz.prog w=.ok (.map (some w.heap.size)) (w.alloc (Z7 Zzj Value.bool [])):= @run_makeMap Tryz.prog 164;clear h hcs hH hB hg0 hb4 o2 o3;go_enter Tryz.func53,Tryz.ntmps53;go_upto_region 1 with (fail)
 rw[<-hW0];obtain⟨b4,hb4⟩:∃ b4,b4=w.heap.size+1:=⟨_,rfl⟩
 rw[<-hW,<-hb4];have Hb4e:=hid (hb4.trans hs0.symm);clear hW0 hW hs0 hb4;go_upto_region 2 with (go_at_call 31;refine hnew.mono ?_;rintro e w2 ⟨wB,lo,ms,vq,g,rfl,hE,hM,l1,l2,l3,hg2⟩;have HN:=hid (And.intro hE (And.intro hM (And.intro l1 (And.intro l2 (And.intro l3 hg2)))));clear hE hM l1 l2 l3 hg2)
 obtain⟨w3,hw3⟩:∃ w3,w3=w2.alloc (.cells #[.pointer (some ⟨g.m,0,none⟩)] 63):=⟨_,rfl⟩
 rw[<-hw3];obtain⟨mb,hmb⟩:∃ mb,mb=w2.heap.size:=⟨_,rfl⟩
 rw[<-hmb];have hg3:w2.grownBy w3 none:=by rw[hw3];exact Lc _ _ _
 have hb3:w3.heap[mb]?=some (.cells #[.pointer (some ⟨g.m,0,none⟩)] 63 (0,0)):=by rw[hw3,hmb];exact La _ _
 have hgW3:=Zb HN.out.2.2.2.2.2 hg3;have hc3:=HH.out.cell w3 (Zb Hg0.out hgW3);have hnew2:=Zkc p _ w3 B (HH.out.le _ (Zb Hg0.out hgW3)) (HH.out.prog _ (Zb Hg0.out hgW3)) (Zjs (Jt hz)) hz;have Hb3:=hid hb3;have Hg3:=hid hg3;have HgW3:=hid hgW3;have Hmb:=hid hmb;have Hz:=hid (And.intro (Jt hz) (Zph hz));clear hw3 hb3 hg3 hgW3 hnew hc hmb hz;go_upto_region 5 with (go_at_call 22;refine hnew2.mono ?_;rintro e wS ⟨mS,rfl,hS,hg4⟩;have HS:=hid hS;have Hg4:=hid hg4;clear hS hg4)
 clear hnew2 hc3;go_upto_block 0 with (fail)
 obtain⟨fb,hfb⟩:∃ fb,fb=wS.heap.size:=⟨_,rfl⟩
 obtain⟨eb,heb⟩:∃ eb,eb=fb+1:=⟨_,rfl⟩
 obtain⟨bb,hbb⟩:∃ bb,bb=eb+1:=⟨_,rfl⟩
 obtain⟨tb,htb⟩:∃ tb,tb=bb+1:=⟨_,rfl⟩
 rw[<-hfb,<-heb,<-hbb,<-htb];obtain⟨wL,hwL⟩:∃ wL:World,wL=(((wS.alloc (Z7 Zze Value.bool [])).alloc (Z7 Zzj Value.bool [])).alloc (.cells #[.map (some fb)] 163)).alloc (.cells #[.slice none 0 0,.slice none 0 0,.int .u8 0,.int .i64 0] 102):=⟨_,rfl⟩
 rw[<-hwL];have hgL:wS.grownBy wL none:=by rw[hwL];exact Zd (Zd (Zd (Lc _ _ _) _) _) _
 have hI:RnI p W wS w3.heap.size wB ms vq mb bb fb eb tb wL g (gm0 p) 0 [] []:=by
  have hg1:=(HN.out.2.1.grow Hg3.out)
  have hs3:=Hg3.out.size;have hs4:=Hg4.out.size;have hm:=Hmb.out;have hlt:∀ n,SQ g n->n<mb:=fun n hn=>by rw[hm];exact HN.out.2.1.lt hn
  have e1:=La (wS.alloc (Z7 Zze Value.bool [])) (Z7 Zzj Value.bool []);have e2:=La ((wS.alloc (Z7 Zze Value.bool [])).alloc (Z7 Zzj Value.bool [])) (.cells #[.map (some fb)] 163);have e3:=La (((wS.alloc (Z7 Zze Value.bool [])).alloc (Z7 Zzj Value.bool [])).alloc (.cells #[.map (some fb)] 163)) (.cells #[.slice none 0 0,.slice none 0 0,.int .u8 0,.int .i64 0] 102);simp only[World.size_alloc,<-hfb,<-heb,<-hbb,<-htb] at e1 e2 e3;refine⟨(TwoI.start (Lb W none) hg1 (Zoi Hz.out.1) HN.out.2.2.2.1 HN.out.2.2.2.2.1 HgW3.out Hg4.out).grow hgL,StOk.start Hz.out.1,fun n hn e=>?_,fun n hn=>by omega,?_,?_,?_,?_,?_,by omega⟩
  ·have:=hlt n e;omega
  ·exact ((Zb Hg4.out hgL).block _ (Ze Hb3.out) (by simp)).trans Hb3.out
  ·rw[hwL];exact Zc e2 _
  ·rw[hwL,hfb];exact Zc (Zc (Zc (La _ _) _) _) _
  ·rw[hwL];exact Zc (Zc e1 _) _
  ·rw[hwL];exact e3
 have HI:=hid hI;have HE:=hid HN.out.1;clear hwL hgL hI HN Hb3 Hg3 Hg4 Hmb hfb heb hbb htb hmm hmc HgW3;go_cut [1,14,15,16,17,18,19,20] from 39 to 82 (fun s1 s14 s15 s16 s17 s18 s19 s20 wx=>∃ (g':SAd) (s:GM) (k:Nat) (cs':List Int) (mf:List (FK×Bool)) (mc:List (CK×Bool)),Hid (RnI p W wS w3.heap.size wB ms vq mb bb fb eb tb wx g' s k mf mc/\RnX p cs k s cs' mf mc/\(k=16384\/Zzk p s cs'=none)))
 case first=>
  go_upto_region 8 with (fail)
  go_loopw [1] (fun s1 wr=>∃ (g':SAd) (s:GM) (k:Nat) (cs':List Int) (mf:List (FK×Bool)) (mc:List (CK×Bool)) (A1:Option Addr) (c1:Nat),s1=.slice A1 cs'.length c1/\Hid (g'.m=g.m/\ChI w B cs' A1 c1/\RnI p W wS w3.heap.size wB ms vq mb bb fb eb tb wr g' s k mf mc/\RnK p cs k s cs' mf mc)) (fun _ wr=>16384-Ycn wr tb)
  case atStart=>exact⟨g,gm0 p,0,cs,[],[],AC,cc,rfl,hid ⟨rfl,HC0.out,HI.out,RnK.start p cs⟩⟩
  case round=>
   obtain⟨g',s,k,cs',mf,mc,A1,c1,rfl,hh⟩:=hrel;have HIr:=hid hh.out.2.2.1;have HK:=hid hh.out.2.2.2;have ht3:wr.cell? ⟨tb,3,none⟩=some (.int .i64 k):=(Za HIr.out.ct).1 3
   by_cases hk:k<16384
   ·have hk1:(k:Int)<16384:=by omega
    have cmb:wr.cell? ⟨mb,0,none⟩=some (.pointer (some ⟨g'.m,0,none⟩)):=(Za HIr.out.cmb).1 0;have hat:=Zxq HIr.out.two.ma HIr.out.two.ok
    by_cases h0:s.stop=0
    ·obtain⟨l,a,ha⟩:=HIr.out.two.acts h0;obtain⟨f,y,hf,hy,hx⟩:=HIr.out.two.ok.at_ins ha;have hap:atP s=a.pt:=by unfold atP;rw[if_pos h0,X1 ha]
     rw[decide_eq_true h0,hap] at hat;obtain⟨z,hzd⟩:∃ z,z=Yp p a.pt:=⟨_,rfl⟩
     rw[<-hzd] at hx
     have HR:=hid (show ∀ l,Zzk p s l=if z.op=12 then (match l with|[]=>none|c::r=>some (s.move p (decide (c % 2=1)),r)) else some (s.move p false,l) by
      intro l
      unfold Zzk
      rw[if_pos h0,X1 ha,<-hzd]
      rfl)
     obtain⟨⟨pf,pb,pi⟩,hpt⟩:∃ q,q=a.pt:=⟨_,rfl⟩
     rw[<-hpt] at hf hy hx hat hap;simp only at hf hy hx hat;have Hat:=hid (And.intro hf (And.intro hy hx));have H0:=hid h0;clear ha hzd hap hpt hf hy hx h0;go_upto_region 10 with (go_at_call 32;refine hat.mono ?_;rintro e w5 ⟨rfl,hg5⟩;have Hg5:=hid hg5;clear hg5)
     clear ht3 cmb hat;obtain⟨w6,hw6⟩:∃ w6,w6=w5.alloc (.cells #[.int .i64 pf,.int .i64 pb,.int .i64 pi] 41):=⟨_,rfl⟩
     rw[<-hw6];obtain⟨u,hu⟩:∃ u,u=w5.heap.size:=⟨_,rfl⟩
     rw[<-hu];have hg6:wr.grownBy w6 none:=by rw[hw6];exact Zd Hg5.out _
     have hb6:w6.heap[u]?=some (.cells #[.int .i64 pf,.int .i64 pb,.int .i64 pi] 41 (0,0)):=by rw[hw6,hu];exact La _ _
     have hI6:=HIr.out.grow hg6;have hlook:=Ycg HE.out hI6.two.ma hI6.st.ok hI6.st.nd ((Za hI6.cmb).1 0) ((Za hI6.cbb).1 0) hI6.cf (Zzm hI6.cbb hI6.cf Zzh);have HI6:=hid hI6;have Hb6:=hid hb6;clear hw6 hu hg6 hb6 hI6 Hg5;go_upto_region 12 with (go_at_call 94;refine hlook.mono ?_;rintro e w7 ⟨rfl,hc7,mf',q1,q2,q3,q4⟩;have HQ:=hid (And.intro hc7 (And.intro q1 (And.intro q2 (And.intro q3 q4))));clear hc7 q1 q2 q3 q4)
     clear hlook;have hI7:=HI6.out.setF HQ.out.1 HQ.out.2.1;have hb7:=HQ.out.1.at_ Hb6.out (Zzm Hb6.out HI6.out.cf Zzh);have k0:w7.cell? ⟨u,0,none⟩=some (.int .i64 pf):=(Za hb7).1 0;have k1:w7.cell? ⟨u,1,none⟩=some (.int .i64 pb):=(Za hb7).1 1;have k2:w7.cell? ⟨u,2,none⟩=some (.int .i64 pi):=(Za hb7).1 2;have hins:=Zay (hI7.two.mapAt HS.out) Hat.out.1 Hat.out.2.1 Hat.out.2.2;simp only[insV] at hins;have HI7:=hid hI7;clear hI7 hb7 Hb6 HI6;go_upto_region 14 with (go_at_call 26;refine hins.mono ?_;rintro e w8 ⟨A5,d5,A6,d6,rfl,-,hg8⟩;have Hg8:=hid hg8;clear hg8)
     obtain⟨w9,hw9⟩:∃ w9,w9=w8.alloc (.cells #[.int .u8 z.op,.string ⟨z.dst.toArray⟩,.string ⟨z.a.toArray⟩,.string ⟨z.b.toArray⟩,.int .i64 z.n,.string ⟨z.fn.toArray⟩,.slice A5 z.args.length d5,.slice A6 z.lb9.length d6] 25):=⟨_,rfl⟩
     rw[<-hw9];have hg9:w7.grownBy w9 none:=by rw[hw9];exact Zd Hg8.out _
     have hb9:w9.heap[w8.heap.size]?=some (.cells #[.int .u8 z.op,.string ⟨z.dst.toArray⟩,.string ⟨z.a.toArray⟩,.string ⟨z.b.toArray⟩,.int .i64 z.n,.string ⟨z.fn.toArray⟩,.slice A5 z.args.length d5,.slice A6 z.lb9.length d6] 25 (0,0)):=by rw[hw9];exact La _ _
     have y0:w9.cell? ⟨w8.heap.size,0,none⟩=some (.int .u8 z.op):=(Za hb9).1 0;have HI9:=hid (HI7.out.grow hg9);clear hw9 hb9 hg9 hins k0 k1 k2;go_upto_if 59 with (fail)
     clear y0;go_cut [1,16] from 60 to 67 (fun s1 s16 wx=>∃ (c:Int) (cs2:List Int) (A2:Option Addr) (c2:Nat),s16=.int .i64 c/\s1=.slice A2 cs2.length c2/\Hid (w9.grownBy wx none/\ChI w B cs2 A2 c2/\Zzk p s cs'=some (s.move p (decide (c % 2=1)),cs2)))
     case first=>
      have hCh:=hh.out.2.1
      by_cases ho:z.op=12
      ·have hzb:((z.op:Int) == 12)=true:=by rw[ho];rfl
       cases cs' with
       |nil=>
        have Hrn:=hid (show Zzk p s []=none by rw[HR.out,if_pos ho]);clear ho hCh;rw[List.length_nil];go_wp2_with fail;go_meet;exact⟨g',s,k,[],mf',mc,hid ⟨HI9.out,HK.out.look HQ.out.2.2.1 HQ.out.2.2.2.1 HQ.out.2.2.2.2,.inr Hrn.out⟩⟩
       |cons c r=>
        have Hrn:=hid (show Zzk p s (c::r)=some (s.move p (decide (c % 2=1)),r) by rw[HR.out,if_pos ho]);obtain⟨bC,oC,A2,rfl,hbC,hcC,hsl,hch2⟩:=hCh.tail;have hcap:=hCh.cap;rw[List.length_cons] at hcap ⊢;have hC9:w9.cell? ⟨bC,oC,none⟩=some (.int .i64 c):=by
         have hgW:=Zb HH.out.grown (Zb Hg0.out HI9.out.two.grown);exact (Lj (hgW.block bC (Lm hbC HB.out) (by simp))).trans hcC
        have Hch2:=hid hch2;have hc0:(0:Int)<(r.length:Int)+1:=by omega
        have hc1:¬ (r.length:Int)+1=0:=by omega
        have hc2:(1:Int)<=(r.length:Int)+1:=by omega
        clear ho hch2 hCh hcC hbC;go_upto_region 16 with (fail)
        go_quiet (fail);go_wp2_with fail;go_meet;exact⟨c,r,A2,c1-1,rfl,rfl,hid ⟨Zg (Lb _ _) _,Hch2.out,Hrn.out⟩⟩
      ·have hob:(z.op:Int)≠12:=by omega
       have Hrn:=hid (show Zzk p s cs'=some (s.move p (decide ((0:Int) % 2=1)),cs') by rw[HR.out,if_neg ho];rfl);have HCh:=hid hCh;clear ho hCh;go_wp2_with fail;go_meet;exact⟨0,cs',A1,c1,rfl,rfl,hid ⟨Lb _ _,HCh.out,Hrn.out⟩⟩
     case rest=>
      obtain⟨c,cs2,A2,c2,rfl,rfl,hx⟩:=hcut;have hI:=HI9.out.grow hx.out.1;have cmb:wc.cell? ⟨mb,0,none⟩=some (.pointer (some ⟨g'.m,0,none⟩)):=(Za hI.cmb).1 0;have hmv:=TwoI.move HE.out hI.two c;obtain⟨s',hs'⟩:∃ s',s'=s.move p (decide (c % 2=1)):=⟨_,rfl⟩
      have hrd:=hx.out.2.2;rw[<-hs'] at hmv hrd;have HIc:=hid hI;have HCh:=hid hx.out.2.1;have Hrd:=hid hrd;have Hst:=hid (Ydr Hz.out.1 Hz.out.2 hI.st hrd);clear hI hx hrd hs';go_upto_region 18 with (go_at_call 36;refine hmv.mono ?_;rintro e wD ⟨rfl,g2,hm2,hs2,ht2⟩;have HM:=hid (And.intro hm2 (And.intro hs2 ht2));clear hm2 hs2 ht2)
      have hID:=HIc.out.move HM.out.1 HM.out.2.1 HM.out.2.2 Hst.out;have kt:wD.cell? ⟨tb,3,none⟩=some (.int .i64 k):=(Za hID.ct).1 3;have ft:=(Za hID.ct).2 3;have hw:IntKind.i64.wrap ((k:Int)+1)=(k:Int)+1:=by rw[IntKind.wrap_i64];omega
      have HID:=hid hID;clear hID hmv cmb;go_upto_region 19 with (fail)
      obtain⟨wE,hwE⟩:∃ wE,wE=wD.setCell ⟨tb,3,none⟩ (.int .i64 ((k:Int)+1)):=⟨_,rfl⟩
      rw[<-hwE]
      have hIE:RnI p W wS w3.heap.size wB ms vq mb bb fb eb tb wE g2 s' (k+1) mf' mc:=HID.out.setT (by rw[hwE];exact Chg.set (Q:=fun n=>n=tb) wD (p:=⟨tb,3,none⟩) rfl _) (by
       rw[hwE]
       have:=Zs HID.out.ct 3 (.int .i64 ((k:Int)+1))
       simpa using this)
      have cmb:wE.cell? ⟨mb,0,none⟩=some (.pointer (some ⟨g2.m,0,none⟩)):=(Za hIE.cmb).1 0;have hen:=Jb hIE.two.ma;have HIE:=hid hIE;have Hm2:=hid (HM.out.1.trans hh.out.1);clear hIE hwE kt ft hw HID HIc HI9 HI7 HM
      cases hd:s'.did with
      |false=>
       rw[hd] at hen;have Hd:=hid (show Yab s'=[] by unfold Yab;rw[hd];rfl);simp only[Bool.false_eq_true,if_false,Zhm] at hen;clear hd;go_wp2_with (go_at_call 40;refine hen.mono ?_;rintro e wF ⟨rfl,hgF⟩;have HgF:=hid hgF;clear hgF);go_roundw
       case rel=>exact⟨g2,s',k+1,cs2,mf',mc,A2,c2,rfl,hid ⟨Hm2.out,HCh.out,HIE.out.grow (Zd HgF.out _),HK.out.step hk Hrd.out HQ.out.2.2.1 HQ.out.2.2.2.1 HQ.out.2.2.2.2 (fun x=>by rw[Hd.out];simp) (fun h=>h) (by omega)⟩⟩
       case measure=>rw[Yai (HIE.out.grow (Zd HgF.out _)).ct,Yai HIr.out.ct];omega
      |true=>
       rw[hd] at hen;have Hd:=hid (show Yab s'=[s'.ent] by unfold Yab;rw[hd];rfl);simp only[if_true,Zhm] at hen;clear hd;obtain⟨⟨⟨e0,e1,e2⟩,e3⟩,hee⟩:∃ q,q=s'.ent:=⟨_,rfl⟩
       rw[<-hee] at hen Hd;clear hee;simp only at hen;go_upto_region 21 with (go_at_call 40;refine hen.mono ?_;rintro e wF ⟨rfl,hgF⟩;have HgF:=hid hgF;clear hgF)
       obtain⟨wG,hwG⟩:∃ wG,wG=wF.alloc (.cells #[.int .i64 e0,.int .i64 e1,.int .i64 e2,.int .i64 e3] 81):=⟨_,rfl⟩
       rw[<-hwG];have hbG:wG.heap[wF.heap.size]?=some (.cells #[.int .i64 e0,.int .i64 e1,.int .i64 e2,.int .i64 e3] 81 (0,0)):=by rw[hwG];exact La _ _
       have hIG:=HIE.out.grow (show wE.grownBy wG none by rw[hwG];exact Zd HgF.out _);have hrun:=Zed (P:=Tryz.prog) (ev:=Value.bool) keyCK Tryz.underlying164 hIG.ce (((e0,e1,e2),e3):CK) true;simp only[Zzj] at hrun;have x0:wG.cell? ⟨wF.heap.size,0,none⟩=some (.int .i64 e0):=(Za hbG).1 0;have x1:wG.cell? ⟨wF.heap.size,1,none⟩=some (.int .i64 e1):=(Za hbG).1 1;have x2:wG.cell? ⟨wF.heap.size,2,none⟩=some (.int .i64 e2):=(Za hbG).1 2;have x3:wG.cell? ⟨wF.heap.size,3,none⟩=some (.int .i64 e3):=(Za hbG).1 3;have HIG:=hid hIG;clear hIG hwG hbG hen cmb;go_wp2_with fail;have hI2:=HIG.out.setE (Chg.turned (Q:=fun n=>n=eb) (Turned.putObj wG eb (Z7 Zzj Value.bool (Yz mc (((e0,e1,e2),e3):CK) true))) rfl) (Xt HIG.out.ce _);have HI2:=hid hI2;clear hI2 hrun x0 x1 x2 x3;go_roundw
       case rel=>exact⟨g2,s',k+1,cs2,mf',_,A2,c2,rfl,hid ⟨Hm2.out,HCh.out,HI2.out,HK.out.step hk Hrd.out HQ.out.2.2.1 HQ.out.2.2.2.1 HQ.out.2.2.2.2 (fun x=>by rw[Hd.out,List.mem_singleton];exact (Ybd mc _).1 x) (fun h=>Zyg _ _ h) (Ybd mc _).2⟩⟩
       case measure=>rw[Yai HI2.out.ct,Yai HIr.out.ct];omega
    ·have hr:∀ l,Zzk p s l=none:=fun l=>by unfold Zzk;rw[if_neg h0]
     rw[decide_eq_false h0] at hat;have Hr:=hid hr;clear hr h0;go_wp2_with (go_at_call 32;refine hat.mono ?_;rintro e w5 ⟨rfl,hg5⟩;have Hg5:=hid hg5;clear hg5);go_meet;exact⟨g',s,k,cs',mf,mc,hid ⟨HIr.out.grow (Zd Hg5.out _),HK.out.mid,.inr (Hr.out _)⟩⟩
   ·have hk1:¬ (k:Int)<16384:=by omega
    have hk2:k=16384:=by have:=HK.out.le;omega
    have Hk2:=hid hk2;clear hk hk2;go_wp2;go_meet;exact⟨g',s,k,cs',mf,mc,hid ⟨HIr.out,HK.out.mid,.inl Hk2.out⟩⟩
 case rest=>
  obtain⟨g',s,k,cs',mf,mc,hx⟩:=hcut;have hI:=hx.out.1;have hlook:=Ycg HE.out hI.two.ma hI.st.ok hI.st.nd ((Za hI.cmb).1 0) ((Za hI.cbb).1 0) hI.cf (Zzm hI.cbb hI.cf Zzh);have HIx:=hid hI;clear hI;go_upto_region 23 with (go_at_call 94;refine hlook.mono ?_;rintro e wM ⟨rfl,hc7,mf',q1,q2,q3,q4⟩;have HQ:=hid (And.intro hc7 (And.intro q1 (And.intro q2 (And.intro q3 q4))));clear hc7 q1 q2 q3 q4)
  clear hlook;have hJ:=HIx.out.setF HQ.out.1 HQ.out.2.1;have HF:=hid (fun (W':World) (hg:wM.grownBy W' none)=>Ydl fb mf' (HQ.out.2.2.2.1 hx.out.2.1.fnd) (by have:=HQ.out.2.2.2.2;have:=hx.out.2.1.flen;omega) W' (hJ.grow hg).cf);have HEc:=hid (fun (W':World) (hg:wM.grownBy W' none)=>Ydk eb mc hx.out.2.1.cnd (by have:=hx.out.2.1.clen;omega) W' (hJ.grow hg).ce);have Hst:=hid (fun (W':World) (hg:wM.grownBy W' none)=>Us (hJ.grow hg).two.ma);have HJ:=hid hJ;have HS2:=hid (show ∀ W',wM.grownBy W' none->W'.cell? ⟨bb,0,none⟩=some (.map (some fb))/\W'.cell? ⟨mb,0,none⟩=some (.pointer (some ⟨g'.m,0,none⟩)) from fun W' hg=>⟨(Za (hJ.grow hg).cbb).1 0,(Za (hJ.grow hg).cmb).1 0⟩);have HS3:=hid (show ∀ W',Chg (fun n=>n=tb) wM W'->W'.cell? ⟨bb,0,none⟩=some (.map (some fb))/\W'.cell? ⟨mb,0,none⟩=some (.pointer (some ⟨g'.m,0,none⟩)) from fun W' hc=>⟨(Za (hc.at_ hJ.cbb (Zzm hJ.cbb hJ.ct (Yan (by decide))))).1 0,(Za (hc.at_ hJ.cmb (Zzm hJ.cmb hJ.ct (Yan (by decide))))).1 0⟩);have hg:=Lb wM none;clear hJ;go_cut [93] from 85 to 93 (fun s93 wx=>∃ (FL:List FK) (CL:List CK) (A1 A2:Option Addr) (c1 c2:Nat),s93=.pointer (some ⟨tb,2,none⟩)/\Hid (FL.Perm (mf'.map (·.1))/\CL.Perm (mc.map (·.1))/\FL.Pairwise (fun x y=>Zzb (Zza x) (Zza y)<0)/\CL.Pairwise (fun x y=>Zzb (Zzc x) (Zzc y)<0)/\wx.ownsRow wM.heap.size 93 5 (.slice A1 FL.length c1) FL.length (FL.flatMap clF)/\wx.ownsRow wM.heap.size 81 4 (.slice A2 CL.length c2) CL.length (CL.flatMap clC)/\wx.heap[tb]?=some (.cells #[.slice A1 FL.length c1,.slice A2 CL.length c2,.int .u8 s.stop,.int .i64 k] 102 (0,0))/\Chg (fun n=>n=tb) wM wx))
  case first=>
   go_region_held3 (fun W'=>W'.cell? ⟨bb,0,none⟩=some (.map (some fb))/\W'.cell? ⟨mb,0,none⟩=some (.pointer (some ⟨g'.m,0,none⟩))) (first|exact HS2.out _ hg|exact HS2.out _ (Zf hg)|exact HS3.out _ (U4 (Chg.grown hg (fun r e=>by cases e)) _ _)|exact HS3.out _ (U4 (U4 (Chg.grown hg (fun r e=>by cases e)) _ _) _ _)|exact HS3.out _ (U4 (U4 (U4 (Chg.grown hg (fun r e=>by cases e)) _ _) _ _) _ _)) ((first
                                                                                                                                                                                                                                                                                                                                                                                                                                                                                      |(go_simp;go_at_call 95;refine (HF.out _ (by first|exact hg|exact Zf hg)).mono ?_;rintro e w1 ⟨FL,vF,rfl,hF⟩;obtain⟨A1,c1,rfl,-,-,-,-⟩:=Zz hF.2.2.1;have hg:=Zb (by first|exact hg|exact Zf hg) hF.2.2.2;have HFx:=hid hF;clear hF)
                                                                                                                                                                                                                                                                                                                                                                                                                                                                                      |(go_simp;go_at_call 96;refine (HEc.out _ (by first|exact hg|exact Zf hg)).mono ?_;rintro e w2 ⟨CL,vC,rfl,hC⟩;obtain⟨A2,c2,rfl,-,-,-,-⟩:=Zz hC.2.2.1;have hq:w1.grownBy w2 none:=Zb (by first|exact Lb _ _|exact Zf (Lb _ _)) hC.2.2.2;have hg:=Zb (by first|exact hg|exact Zf hg) hC.2.2.2;have HCx:=hid hC;clear hC;have t0:w2.cell? ⟨tb,0,none⟩=some (.slice none 0 0):=((Za (HJ.out.grow hg).ct).1 0);have t1:w2.cell? ⟨tb,1,none⟩=some (.slice none 0 0):=((Za (HJ.out.grow hg).ct).1 1);have t2:w2.cell? ⟨tb,2,none⟩=some (.int .u8 0):=((Za (HJ.out.grow hg).ct).1 2);have f0:=((Za (HJ.out.grow hg).ct).2 0);have f1:=((Za (HJ.out.grow hg).ct).2 1);have f2:=((Za (HJ.out.grow hg).ct).2 2))
                                                                                                                                                                                                                                                                                                                                                                                                                                                                                      |(go_simp;go_at_call 39;refine (Hst.out _ (by first|exact hg|exact Zf hg)).mono ?_;rintro e w3 ⟨rfl,rfl⟩)))
   all_goals (go_wp2_with fail;go_meet)
   all_goals (
    have hF:=HFx.out
    have hC:=HCx.out
    have htl:=Ze HJ.out.ct
    have hsz:w.heap.size<=wM.heap.size:=by have:=HH.out.grown.size;have:=Hg0.out.size;have:=HJ.out.two.grown.size;omega
    have hs1:wM.heap.size<=w1.heap.size:=hF.2.2.2.size
    have hc3:Chg (fun n=>n=tb) w2 _:=U4 (U4 (U4 (Chg.refl _ w2) 0 (.slice A1 FL.length c1)) 1 (.slice A2 CL.length c2)) 2 (.int .u8 s.stop)
    refine⟨FL,CL,A1,A2,c1,c2,rfl,hid ⟨hF.1,hC.1,hF.2.1,hC.2.1,?_,?_,?_,(Chg.grown hg (fun r e=>by cases e)).trans hc3 (fun _ _ e=>e)⟩⟩
    ·have hr:=(Chg.grown (Q:=fun _=>False) hq (fun r e=>by cases e)).owns hF.2.2.1 (fun _ _ e=>e)
     exact Zzu (hc3.owns hr (fun n e q=>by have h1:wM.heap.size<=n:=(hr.lt n e).1;omega)) (Lf _)
    ·exact Zzu (hc3.owns hC.2.2.1 (fun n e q=>by have h1:w1.heap.size<=n:=(hC.2.2.1.lt n e).1;omega)) hs1
    ·have:=Zs (Zs (Zs (HJ.out.grow hg).ct 0 (.slice A1 FL.length c1)) 1 (.slice A2 CL.length c2)) 2 (.int .u8 s.stop)
     simpa using this)
  case rest=>
   obtain⟨FL,CL,A1,A2,c1,c2,rfl,hy⟩:=hcut;have hbt:=hy.out.2.2.2.2.2.2.1;have t0:wc.cell? ⟨tb,0,none⟩=some (.slice A1 FL.length c1):=(Za hbt).1 0;have t1:wc.cell? ⟨tb,1,none⟩=some (.slice A2 CL.length c2):=(Za hbt).1 1;have t2:wc.cell? ⟨tb,2,none⟩=some (.int .u8 s.stop):=(Za hbt).1 2;have t3:wc.cell? ⟨tb,3,none⟩=some (.int .i64 k):=(Za hbt).1 3;have f2:=(Za hbt).2 2;have hbc:wc.heap[b4]?=some (.cells #[.slice none 0 0,.slice none 0 0,.int .u8 0,.int .i64 0] 102 (0,0)):=by
    have h1:=Ze Hb4.out;rw[<-Hb4e.out] at h1;have h2:=HJ.out.up tb (by simp);have h3:=HJ.out.two.grown.size;have h4:=HJ.out.two.le;exact (hy.out.2.2.2.2.2.2.2.block b4 (by omega) (by omega)).trans ((HJ.out.two.grown.block b4 h1 (by simp)).trans (by rw[Hb4e.out];exact Hb4.out))
   have hne:b4≠tb:=by
    have h1:=Ze Hb4.out;rw[<-Hb4e.out] at h1;have h2:=HJ.out.up tb (by simp);have h4:=HJ.out.two.le;omega
   have HG:=hid (Zb HH.out.grown (Zb Hg0.out HJ.out.two.grown))
   have HL:=hid (show ∀ n,(n=tb\/n=b4)->w.heap.size<=n/\n<wM.heap.size from fun n hn=>by
    have h1:=Ze Hb4.out
    have h2:=HJ.out.up tb (by simp)
    have h3:=HJ.out.two.grown.size
    have h4:=HJ.out.two.le
    have h5:=HH.out.grown.size
    have h6:=Ze HJ.out.ct
    have h7:=Hb4e.out
    have h8:=Hg0.out.size
    omega)
   by_cases h0:s.stop=0
   ·rw[h0] at t2 hbt;have H0:=hid h0;clear h0;go_upto_region 26 with (fail)
    obtain⟨wd,hwd⟩:∃ wd,wd=wc.setCell ⟨tb,2,none⟩ (.int .u8 7):=⟨_,rfl⟩
    rw[<-hwd];have hbd:wd.heap[tb]?=some (.cells #[.slice A1 FL.length c1,.slice A2 CL.length c2,.int .u8 7,.int .i64 k] 102 (0,0)):=by
     have:=Zs hbt 2 (.int .u8 7);rw[hwd];simpa using this
    have hcd:Chg (fun n=>n=tb) wc wd:=by rw[hwd];exact Chg.set (Q:=fun n=>n=tb) wc (p:=⟨tb,2,none⟩) rfl _
    clear hwd;clear hbt t0 t1 t2 t3 f2;have d0:wd.cell? ⟨tb,0,none⟩=some (.slice A1 FL.length c1):=(Za hbd).1 0;have d1:wd.cell? ⟨tb,1,none⟩=some (.slice A2 CL.length c2):=(Za hbd).1 1;have d2:wd.cell? ⟨tb,2,none⟩=some (.int .u8 7):=(Za hbd).1 2;have d3:wd.cell? ⟨tb,3,none⟩=some (.int .i64 k):=(Za hbd).1 3;have hbb4:=hcd.at_ hbc hne;have g0:wd.cell? ⟨b4,0,none⟩=some (.slice none 0 0):=(Za hbb4).1 0;have g1:wd.cell? ⟨b4,1,none⟩=some (.slice none 0 0):=(Za hbb4).1 1;have g2:wd.cell? ⟨b4,2,none⟩=some (.int .u8 0):=(Za hbb4).1 2;have g3:wd.cell? ⟨b4,3,none⟩=some (.int .i64 0):=(Za hbb4).1 3;have j0:=(Za hbb4).2 0;have j1:=(Za hbb4).2 1;have j2:=(Za hbb4).2 2;have j3:=(Za hbb4).2 3;have Hcd:=hid hcd;have Hbb4:=hid hbb4;clear hbd hcd hbb4 hbc;go_wp2_with fail;have hbz:=Zdc Hbb4.out (.slice A1 FL.length c1) (.slice A2 CL.length c2) (.int .u8 7) (.int .i64 k);have hcz:=chg4 wd b4 0 1 2 3 (.slice A1 FL.length c1) (.slice A2 CL.length c2) (.int .u8 7) (.int .i64 k);obtain⟨wz,hwz⟩:∃ wz,wz=((((wd.setCell ⟨b4,0,none⟩ (.slice A1 FL.length c1)).setCell ⟨b4,1,none⟩ (.slice A2 CL.length c2)).setCell ⟨b4,2,none⟩ (.int .u8 7)).setCell ⟨b4,3,none⟩ (.int .i64 k)):=⟨_,rfl⟩
    rw[<-hwz] at hbz hcz ⊢;have z0:wz.cell? ⟨b4,0,none⟩=some (.slice A1 FL.length c1):=(Za hbz).1 0;have z1:wz.cell? ⟨b4,1,none⟩=some (.slice A2 CL.length c2):=(Za hbz).1 1;have z2:wz.cell? ⟨b4,2,none⟩=some (.int .u8 7):=(Za hbz).1 2;have z3:wz.cell? ⟨b4,3,none⟩=some (.int .i64 k):=(Za hbz).1 3;refine bodyPost_ret (v:=.tuple #[.agg #[.slice A1 FL.length c1,.slice A2 CL.length c2,.int .u8 7,.int .i64 k],.int .i64 0]) (by simp[results,Tryz.results53,go_sem,z0,z1,z2,z3]) rfl ?_;have hall:Chg (fun n=>n=tb\/n=b4) wc wz:=(Hcd.out.mono (fun n _ e=>.inl e)).trans hcz (fun n _ e=>.inr e);exact Ydb hx.out.2.1 hx.out.2.2 HQ.out.2.2.1 hy.out.1 hy.out.2.1 hy.out.2.2.1 hy.out.2.2.2.1 hy.out.2.2.2.2.1 hy.out.2.2.2.2.2.1 hy.out.2.2.2.2.2.2.2 hall HG.out HL.out (show 7=if s.stop=0 then 7 else s.stop by rw[if_pos H0.out])
   ·have hs0:¬ (s.stop:Int)=0:=by omega
    have H0:=hid h0;clear h0;go_upto_region 26 with (fail)
    obtain⟨wd,hwd⟩:∃ wd,wd=wc:=⟨_,rfl⟩
    have hbd:=hbt;have hcd:=Chg.refl (fun n=>n=tb) wc;rw[<-hwd] at hbd ⊢;have hcd:Chg (fun n=>n=tb) wc wd:=by rw[hwd];exact hcd
    clear hwd;clear hbt t0 t1 t2 t3 f2;have d0:wd.cell? ⟨tb,0,none⟩=some (.slice A1 FL.length c1):=(Za hbd).1 0;have d1:wd.cell? ⟨tb,1,none⟩=some (.slice A2 CL.length c2):=(Za hbd).1 1;have d2:wd.cell? ⟨tb,2,none⟩=some (.int .u8 s.stop):=(Za hbd).1 2;have d3:wd.cell? ⟨tb,3,none⟩=some (.int .i64 k):=(Za hbd).1 3;have hbb4:=hcd.at_ hbc hne;have g0:wd.cell? ⟨b4,0,none⟩=some (.slice none 0 0):=(Za hbb4).1 0;have g1:wd.cell? ⟨b4,1,none⟩=some (.slice none 0 0):=(Za hbb4).1 1;have g2:wd.cell? ⟨b4,2,none⟩=some (.int .u8 0):=(Za hbb4).1 2;have g3:wd.cell? ⟨b4,3,none⟩=some (.int .i64 0):=(Za hbb4).1 3;have j0:=(Za hbb4).2 0;have j1:=(Za hbb4).2 1;have j2:=(Za hbb4).2 2;have j3:=(Za hbb4).2 3;have Hcd:=hid hcd;have Hbb4:=hid hbb4;clear hbd hcd hbb4 hbc;go_wp2_with fail;have hbz:=Zdc Hbb4.out (.slice A1 FL.length c1) (.slice A2 CL.length c2) (.int .u8 s.stop) (.int .i64 k);have hcz:=chg4 wd b4 0 1 2 3 (.slice A1 FL.length c1) (.slice A2 CL.length c2) (.int .u8 s.stop) (.int .i64 k);obtain⟨wz,hwz⟩:∃ wz,wz=((((wd.setCell ⟨b4,0,none⟩ (.slice A1 FL.length c1)).setCell ⟨b4,1,none⟩ (.slice A2 CL.length c2)).setCell ⟨b4,2,none⟩ (.int .u8 s.stop)).setCell ⟨b4,3,none⟩ (.int .i64 k)):=⟨_,rfl⟩
    rw[<-hwz] at hbz hcz ⊢;have z0:wz.cell? ⟨b4,0,none⟩=some (.slice A1 FL.length c1):=(Za hbz).1 0;have z1:wz.cell? ⟨b4,1,none⟩=some (.slice A2 CL.length c2):=(Za hbz).1 1;have z2:wz.cell? ⟨b4,2,none⟩=some (.int .u8 s.stop):=(Za hbz).1 2;have z3:wz.cell? ⟨b4,3,none⟩=some (.int .i64 k):=(Za hbz).1 3;refine bodyPost_ret (v:=.tuple #[.agg #[.slice A1 FL.length c1,.slice A2 CL.length c2,.int .u8 s.stop,.int .i64 k],.int .i64 0]) (by simp[results,Tryz.results53,go_sem,z0,z1,z2,z3]) rfl ?_;have hall:Chg (fun n=>n=tb\/n=b4) wc wz:=(Hcd.out.mono (fun n _ e=>.inl e)).trans hcz (fun n _ e=>.inr e);exact Ydb hx.out.2.1 hx.out.2.2 HQ.out.2.2.1 hy.out.1 hy.out.2.1 hy.out.2.2.1 hy.out.2.2.2.1 hy.out.2.2.2.2.1 hy.out.2.2.2.2.2.1 hy.out.2.2.2.2.2.2.2 hall HG.out HL.out (show s.stop=if s.stop=0 then 7 else s.stop by rw[if_neg H0.out])
end
section
open Go.RowKit Go.Shelf
theorem Yfj (p:GProg) (vp:Value) (A1:Option Addr) (n1 c1:Nat) (B:Nat) (w:World) (hB:B<=w.heap.size) (h:ProgAt w B vp p) (hne:(Y5 p).1≠0):
  Calls Tryz.prog 53 #[.agg #[vp],.slice A1 n1 c1] w fun e w'=>e=.returned (.tuple #[.agg #[.slice none 0 0,.slice none 0 0,.int .u8 0,.int .i64 0],.int .i64 5])/\w.grownBy w' none:=by
 obtain⟨A,c,rfl,m1,m2,m3,-⟩:=h.open_;have hH:=Zqk hB h;obtain⟨W0,hW0⟩:∃ W:World,W=w.alloc (.cells #[.slice A p.length c] 47):=⟨_,rfl⟩
 rw[<-hW0] at hH;obtain⟨W,hW⟩:∃ W:World,W=W0.alloc (.cells #[.slice none 0 0,.slice none 0 0,.int .u8 0,.int .i64 0] 102):=⟨_,rfl⟩
 have hg0:W0.grownBy W none:=by rw[hW];exact Lc _ _ _
 have hb4:W.heap[W0.heap.size]?=some (.cells #[.slice none 0 0,.slice none 0 0,.int .u8 0,.int .i64 0] 102 (0,0)):=by rw[hW];exact La _ _
 have hc:=hH.cell W hg0;have hs0:W0.heap.size=w.heap.size+1:=by rw[hW0];simp
 have hnew:=Znc p _ W B (hH.le W hg0) (hH.prog W hg0) hne;have HH:=hid hH;have Hg0:=hid hg0;have Hb4:=hid hb4;clear h hH hB hg0 hb4 hne;go_enter Tryz.func53,Tryz.ntmps53;go_upto_region 1 with (fail)
 rw[<-hW0];obtain⟨b4,hb4⟩:∃ b4,b4=w.heap.size+1:=⟨_,rfl⟩
 rw[<-hW,<-hb4];have Hs:=hid (hb4.trans hs0.symm);have Hbs:=hid (show w.heap.size<b4 by omega);clear hW0 hW hs0 hb4;go_upto_region 2 with (go_at_call 31;refine hnew.mono ?_;rintro e w2 ⟨rfl,hg2⟩;have Hg2:=hid hg2;clear hg2)
 obtain⟨w3,hw3⟩:∃ w3,w3=w2.alloc (.cells #[.pointer none] 63):=⟨_,rfl⟩
 rw[<-hw3];have hg3:W.grownBy w3 none:=by rw[hw3];exact Zd Hg2.out _
 have hb:=(hg3.block _ (Ze Hb4.out) (by simp)).trans Hb4.out;rw[<-Hs.out] at hb;have g0:w3.cell? ⟨b4,0,none⟩=some (.slice none 0 0):=(Za hb).1 0;have g1:w3.cell? ⟨b4,1,none⟩=some (.slice none 0 0):=(Za hb).1 1;have g2:w3.cell? ⟨b4,2,none⟩=some (.int .u8 0):=(Za hb).1 2;have g3:w3.cell? ⟨b4,3,none⟩=some (.int .i64 0):=(Za hb).1 3;have j0:=(Za hb).2 0;have j1:=(Za hb).2 1;have j2:=(Za hb).2 2;have j3:=(Za hb).2 3;have Hb:=hid hb;have Hg3:=hid hg3;clear hw3 hb hg3 hc hnew;go_wp2_with fail;have hbz:=Zdc Hb.out (.slice none 0 0) (.slice none 0 0) (.int .u8 0) (.int .i64 0);have hcz:=chg4 w3 b4 0 1 2 3 (.slice none 0 0) (.slice none 0 0) (.int .u8 0) (.int .i64 0);obtain⟨wz,hwz⟩:∃ wz,wz=((((w3.setCell ⟨b4,0,none⟩ (.slice none 0 0)).setCell ⟨b4,1,none⟩ (.slice none 0 0)).setCell ⟨b4,2,none⟩ (.int .u8 0)).setCell ⟨b4,3,none⟩ (.int .i64 0)):=⟨_,rfl⟩
 rw[<-hwz] at hbz hcz ⊢;have z0:wz.cell? ⟨b4,0,none⟩=some (.slice none 0 0):=(Za hbz).1 0;have z1:wz.cell? ⟨b4,1,none⟩=some (.slice none 0 0):=(Za hbz).1 1;have z2:wz.cell? ⟨b4,2,none⟩=some (.int .u8 0):=(Za hbz).1 2;have z3:wz.cell? ⟨b4,3,none⟩=some (.int .i64 0):=(Za hbz).1 3;refine bodyPost_ret (v:=.tuple #[.agg #[.slice none 0 0,.slice none 0 0,.int .u8 0,.int .i64 0],.int .i64 5]) (by simp[results,Tryz.results53,go_sem,z0,z1,z2,z3]) rfl ⟨rfl,?_⟩;exact Chg.after (Zb HH.out.grown (Zb Hg0.out Hg3.out)) hcz (fun n hn e=>by have:=Hbs.out;omega)
end

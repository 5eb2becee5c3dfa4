/- The contract of gnomonlaw15. Conditions in it. -/
import Derived.Test.YtphnnmecmiodhaaGreatERne
import Derived.Test.YtphnnmecmiodhaaGreatERt
import Derived.BigRegion
set_option maxHeartbeats 8000000
set_option maxRecDepth 100000
set_option linter.all false
namespace Go.Proofs.YtphnnmecmiodhaaGreat
open Lib(hid)
open Go.RowKit Go.Shelf
theorem Ygl (p:GProg) (vp vc:Value) (cs:List Int) (B:Nat) (w:World) (hB:B<=w.heap.size) (h:ProgAt w B vp p) (hcs:SlAt intR 1 w B vc cs):
  Calls Tryz.prog 12 #[.agg #[vp],vc] w fun e w'=>e=.returned (.bool true)/\w.grownBy w' none:=by
 obtain⟨A,c,rfl,m1,m2,m3,-⟩:=h.open_;obtain⟨AC,cc,rfl,o1,o2,o3,-⟩:=hcs.open_;have hH:=Zqk hB h;obtain⟨W,hW⟩:∃ W:World,W=w.alloc (.cells #[.slice A p.length c] 47):=⟨_,rfl⟩
 rw[<-hW] at hH;have hgr:=Yef p _ W B (hH.le W (Lb _ _)) (hH.prog W (Lb _ _));have hc:=hH.cell W (Lb _ _);have HH:=hid hH;have HC:=hid (fun (W':World) (hg:w.grownBy W' none)=>show SlAt intR 1 W' B (.slice AC cs.length cc) cs from hcs.below intR.keeps (Zk hg) hB);have Hk:=hid (fun W=>Yci W);clear h hcs hH hB;go_enter Tryz.func12,Tryz.ntmps12;go_upto_region 1 with (fail)
 rw[<-hW];clear hW
 repeat go_step
 refine hgr.mono ?_;rintro e w1 ⟨bg,rfl,hg1⟩;have hc1:=HH.out.cell w1 hg1;have Hg1:=hid (Zb HH.out.grown hg1);clear hc hgr;have Hwk:=hid (fun (W':World) (hg:w.grownBy W' none)=>(Hk.out W').mono (R':=fun e w2=>e=.returned (.bool true)/\w.grownBy w2 none) fun e w2 h=>⟨h.1,Zb hg h.2⟩)
 cases bg with
 |true=>
  go_wp2_with (go_at_call 51;refine (Hwk.out _ Hg1.out).mono ?_;rintro e w2 ⟨rfl,hg2⟩);go_ret;exact⟨rfl,hg2⟩
 |false=>
  by_cases h60:(40:Int)<(cs.length:Int)
  ·go_wp2_with (go_at_call 51;refine (Hwk.out _ Hg1.out).mono ?_;rintro e w2 ⟨rfl,hg2⟩);go_ret;exact⟨rfl,hg2⟩
  by_cases hz:(Y5 p).1=0
  ·have hrun:=Yda p _ _ cs B w1 (HH.out.le _ hg1) (HH.out.prog _ hg1) (HC.out _ Hg1.out) hz;go_upto_region 4 with (go_at_call 53;refine hrun.mono ?_;rintro e w2 ⟨FL,CL,vF,vC,st,mv,rfl,hout,hrF,hrC,hg2⟩;obtain⟨A1,c1,rfl,hl1,hl2,-,-⟩:=Zz hrF;obtain⟨A2,c2,rfl,hl3,hl4,-,-⟩:=Zz hrC;have HO:=hid (And.intro hout (And.intro hrF (And.intro hrC hg2)));clear hout hrF hrC hg2)
   obtain⟨w3,hw3⟩:∃ w3,w3=w2.alloc (.cells #[.slice A1 FL.length c1,.slice A2 CL.length c2,.int .u8 st,.int .i64 mv] 102):=⟨_,rfl⟩
   rw[<-hw3];obtain⟨tb,htb⟩:∃ tb,tb=w2.heap.size:=⟨_,rfl⟩
   rw[<-htb];have hg23:w2.grownBy w3 none:=by rw[hw3];exact Lc _ _ _
   have hbt:w3.heap[tb]?=some (.cells #[.slice A1 FL.length c1,.slice A2 CL.length c2,.int .u8 st,.int .i64 mv] 102 (0,0)):=by rw[hw3,htb];exact La _ _
   have hg3:=Zb hg1 (Zb HO.out.2.2.2 hg23);have hlf:FL.length<=9223372036854775807:=by unfold maxLen at hl2;omega
   have hlc:CL.length<=9223372036854775807:=by unfold maxLen at hl4;omega
   have hc3:=HH.out.cell w3 hg3;have hnew:=Zgx p _ w3 B (HH.out.le _ hg3) (HH.out.prog _ hg3) hz;have Hg23:=hid hg23;have Hg3:=hid hg3;have Hbt:=hid hbt;have Hz:=hid (And.intro (Jt hz) (Zph hz));have Hzz:=hid hz;clear hw3 htb hg23 hg3 hrun hc1 hl1 hl2 hl3 hl4 hg1 hz hbt;go_upto_region 5 with (go_at_call 31;refine hnew.mono ?_;rintro e w4 ⟨wB,lo,ms,vq,g,rfl,hE,hM,l1,l2,l3,hg4⟩;have HN:=hid (And.intro hE (And.intro hM (And.intro l1 (And.intro l2 (And.intro l3 hg4)))));clear hE hM l1 l2 l3 hg4)
   have hg4:=Zb Hg3.out HN.out.2.2.2.2.2;have hc4:=HH.out.cell w4 hg4;have hnew2:=Zkc p _ w4 B (HH.out.le _ hg4) (HH.out.prog _ hg4) (Zjs (Jt Hzz.out)) Hzz.out;clear hnew hc3 hg4;go_upto_region 6 with (go_at_call 22;refine hnew2.mono ?_;rintro e wS ⟨mS,rfl,hS,hg5⟩;have HS:=hid hS;have Hg5:=hid hg5;clear hS hg5)
   have hT:TwoI p w3 wS w4.heap.size wB ms vq wS g (gm0 p):=TwoI.start (Lb w3 none) HN.out.2.1 (Zoi Hz.out.1) HN.out.2.2.2.1 HN.out.2.2.2.2.1 HN.out.2.2.2.2.2 Hg5.out;have HT:=hid (show ∀ W',w3.grownBy W' none->W'.heap[tb]?=some (.cells #[.slice A1 FL.length c1,.slice A2 CL.length c2,.int .u8 st,.int .i64 mv] 102 (0,0)) from fun W' hg=>(hg.block _ (Ze Hbt.out) (by simp)).trans Hbt.out);obtain⟨ma,hma⟩:∃ ma,ma=g.m:=⟨_,rfl⟩
   have HI:=hid (SdI.start hT (StOk.start Hz.out.1) hma.symm);rw[<-hma];have HE:=hid HN.out.1;have Hg3S:=hid (Zb HN.out.2.2.2.2.2 Hg5.out);have t3:wS.cell? ⟨tb,3,none⟩=some (.int .i64 mv):=(Za (HT.out wS Hg3S.out)).1 3;clear hnew2 hc4 hT hma HN Hg5
   by_cases h4:(400:Int)<(mv:Int)
   ·have hgS:=hid (Zb HH.out.grown (Zb Hg3.out Hg3S.out));go_wp2_with (go_at_call 51;refine (Hwk.out _ hgS.out).mono ?_;rintro e w2 ⟨rfl,hg2⟩);go_ret;exact⟨rfl,hg2⟩
   have hmv:mv<=400:=by omega
   go_wp2_with fail;clear t3;go_loopw [13,14,15,16] (fun s13 s14 s15 s16 wr=>∃ (g':SAd) (s:GM) (k n:Nat) (LF:List FK) (LC:List CK) (A3 A4:Option Addr) (c3 c4:Nat),k<=mv/\s13=.slice A3 LF.length c3/\s14=.slice A4 LC.length c4/\s15=.int .i64 n/\s16=.int .i64 k/\Hid (SdI p w3 wS w4.heap.size wB ms vq ma wr g' s LF LC (.slice A3 LF.length c3) (.slice A4 LC.length c4))/\Hid (RnT p cs k s n LF LC)) (fun _ _ _ s16 _=>mv-(intOf s16).toNat)
   case atStart=>exact⟨g,gm0 p,0,0,[],[],none,none,0,0,Ln _,rfl,rfl,rfl,rfl,HI.out,RnT.start p cs⟩
   case round=>
    obtain⟨g',s,k,n,LF,LC,A3,A4,c3,c4,hk,rfl,rfl,rfl,rfl,HIr,HR⟩:=hrel;have t3:wr.cell? ⟨tb,3,none⟩=some (.int .i64 mv):=(Za (HT.out wr HIr.out.two.grown)).1 3;have hfc:=Zwx HE.out HIr.out.two.ma HIr.out.two.ok HIr.out.st.nd;rw[HIr.out.gm] at hfc
    by_cases hkm:k<mv
    ·obtain⟨h0,hop⟩:=HR.out.go HO.out.1 hkm;obtain⟨l,a,ha⟩:=HIr.out.two.acts h0;obtain⟨f,y,hf,hy,hx⟩:=HIr.out.two.ok.at_ins ha;have hap:atP s=a.pt:=by unfold atP;rw[if_pos h0,X1 ha]
     obtain⟨z,hzd⟩:∃ z,z=Yp p a.pt:=⟨_,rfl⟩
     rw[X1 ha] at hop;rw[<-hzd] at hx hop;have hzt:Yp p s.top.pt=z:=by rw[X1 ha,<-hzd]
     have Hop:=hid hop;have Hzt:=hid hzt;obtain⟨⟨pf,pb,pi⟩,hpt⟩:∃ q,q=a.pt:=⟨_,rfl⟩
     rw[<-hpt] at hf hy hx hap;have Hap:=hid hap;simp only at hf hy hx;have Hat:=hid (And.intro hf (And.intro hy hx));have H0:=hid h0;clear hop hzt ha hzd hap hpt hf hy hx h0
     go_upto_region 18 with (first
                             |(go_at_call 41;refine hfc.mono ?_;rintro e w5 ⟨L,v2,rfl,hL,ho,hg5⟩;obtain⟨A5,c5,rfl,-,-,-,-⟩:=Zz ho;obtain⟨A6,c6,w6,happ,hI6⟩:=(HIr.out.grow hg5).appF ho (by have h1:=HR.out.flen;have h2:=Ygd Hz.out.1 HIr.out.st.ok HIr.out.st.nd hL;omega) 84;have HL:=hid hL;have HI6:=hid hI6;clear hL ho hg5 hI6)
                             |(refine Yft happ rfl rfl rfl rfl ?_))
     have hat:=Zxq HI6.out.two.ma HI6.out.two.ok;rw[HI6.out.gm,decide_eq_true H0.out,Hap.out] at hat;simp only at hat;clear hfc happ t3;go_upto_region 19 with (go_at_call 32;refine hat.mono ?_;rintro e w7 ⟨rfl,hg7⟩;have Hg7:=hid hg7;clear hg7)
     obtain⟨w8,hw8⟩:∃ w8,w8=w7.alloc (.cells #[.int .i64 pf,.int .i64 pb,.int .i64 pi] 41):=⟨_,rfl⟩
     rw[<-hw8];obtain⟨u,hu⟩:∃ u,u=w7.heap.size:=⟨_,rfl⟩
     rw[<-hu];have hg8:w6.grownBy w8 none:=by rw[hw8];exact Zd Hg7.out _
     have hb8:w8.heap[u]?=some (.cells #[.int .i64 pf,.int .i64 pb,.int .i64 pi] 41 (0,0)):=by rw[hw8,hu];exact La _ _
     have hI8:=HI6.out.grow hg8;have k0:w8.cell? ⟨u,0,none⟩=some (.int .i64 pf):=(Za hb8).1 0;have k1:w8.cell? ⟨u,1,none⟩=some (.int .i64 pb):=(Za hb8).1 1;have k2:w8.cell? ⟨u,2,none⟩=some (.int .i64 pi):=(Za hb8).1 2;have hins:=Zay (hI8.two.mapAt HS.out) Hat.out.1 Hat.out.2.1 Hat.out.2.2;simp only[insV] at hins;have HI8:=hid hI8;clear hw8 hu hg8 hb8 hI8 hat Hg7;go_upto_region 20 with (go_at_call 26;refine hins.mono ?_;rintro e w9 ⟨A7,d7,A8,d8,rfl,-,hg9⟩;have Hg9:=hid hg9;clear hg9)
     obtain⟨wA,hwA⟩:∃ wA,wA=w9.alloc (.cells #[.int .u8 z.op,.string ⟨z.dst.toArray⟩,.string ⟨z.a.toArray⟩,.string ⟨z.b.toArray⟩,.int .i64 z.n,.string ⟨z.fn.toArray⟩,.slice A7 z.args.length d7,.slice A8 z.lb9.length d8] 25):=⟨_,rfl⟩
     rw[<-hwA];obtain⟨xb,hxb⟩:∃ xb,xb=w9.heap.size:=⟨_,rfl⟩
     rw[<-hxb];have hgA:w8.grownBy wA none:=by rw[hwA];exact Zd Hg9.out _
     have hbA:wA.heap[xb]?=some (.cells #[.int .u8 z.op,.string ⟨z.dst.toArray⟩,.string ⟨z.a.toArray⟩,.string ⟨z.b.toArray⟩,.int .i64 z.n,.string ⟨z.fn.toArray⟩,.slice A7 z.args.length d7,.slice A8 z.lb9.length d8] 25 (0,0)):=by rw[hwA,hxb];exact La _ _
     have y0:wA.cell? ⟨xb,0,none⟩=some (.int .u8 z.op):=(Za hbA).1 0;have HIA:=hid (HI8.out.grow hgA);clear hwA hxb hgA hbA hins k0 k1 k2 Hg9;go_upto_if 94 with (fail)
     clear y0;go_cut [21,15] from 95 to 104 (fun s21 s15 wx=>∃ (c:Int) (m:Nat),s21=.int .i64 c/\s15=.int .i64 m/\Hid (wA.grownBy wx none/\if z.op=12 then cs[n]?=some c/\m=n+1 else c=0/\m=n))
     case first=>
      by_cases ho:z.op=12
      ·have hn:=Hop.out ho;have hgW:=Zb HH.out.grown (Zb Hg3.out HIA.out.two.grown);obtain⟨ci,bC,oC,hci,hAC,-,hrC⟩:=(HC.out wA hgW).at_ hn;have hC0:wA.cell? ⟨bC,oC+n,none⟩=some (.int .i64 ci):=by have:=hrC.1;rwa [Nat.mul_one] at this
       have Hci:=hid hci
       cases hAC
       have hzb:((z.op:Int) == 12)=true:=by rw[ho];rfl
       have n1:¬ ((n:Int)=(cs.length:Int)):=by omega
       have n2:¬ (n=cs.length):=by omega
       have n3:((n:Int)<(cs.length:Int)):=by omega
       have hw:IntKind.i64.wrap ((n:Int)+1)=(n:Int)+1:=by rw[IntKind.wrap_i64];omega
       have Ho:=hid ho;clear ho hgW hci hrC;go_wp2_with fail;go_meet;exact⟨ci,n+1,rfl,by go_num,hid ⟨Lb _ _,by rw[if_pos Ho.out];exact⟨Hci.out,rfl⟩⟩⟩
      ·have hob:(z.op:Int)≠12:=by omega
       have Ho:=hid ho;clear ho;go_wp2_with fail;go_meet;exact⟨0,n,rfl,rfl,hid ⟨Lb _ _,by rw[if_neg Ho.out];exact⟨rfl,rfl⟩⟩⟩
     case rest=>
      obtain⟨c,m,rfl,rfl,hx⟩:=hcut;have hI:=HIA.out.grow hx.out.1;have hmvq:=TwoI.move HE.out hI.two c;rw[hI.gm] at hmvq;have hR2:=HR.out.step HO.out.1 hkm (c:=c) (m:=m) (by rw[Hzt.out];exact hx.out.2) HL.out (Ygd Hz.out.1 HIr.out.st.ok HIr.out.st.nd HL.out);have hst2:=hI.st.move Hz.out.1 Hz.out.2 H0.out (decide (c % 2=1));obtain⟨s',hs'⟩:∃ s',s'=s.move p (decide (c % 2=1)):=⟨_,rfl⟩
      rw[<-hs'] at hmvq hR2 hst2;have HIc:=hid hI;have HR2:=hid hR2;have Hst2:=hid hst2;clear hI hx hs' hR2 hst2;go_upto_region 29 with (go_at_call 36;refine hmvq.mono ?_;rintro e wD ⟨rfl,g2,hm2,hs2,ht2⟩;have HM:=hid (And.intro hm2 (And.intro hs2 ht2));clear hm2 hs2 ht2)
      have hID:=HIc.out.move (HM.out.1.trans HIc.out.gm.symm) HM.out.2.1 HM.out.2.2 Hst2.out;have hen:=Jb hID.two.ma;rw[hID.gm] at hen;have HID:=hid hID;clear hID hmvq
      cases hd:s'.did with
      |false=>
       rw[hd] at hen;have Hd:=hid (show Yab s'=[] by unfold Yab;rw[hd];rfl);simp only[Bool.false_eq_true,if_false,Zhm] at hen;clear hd;go_wp2_with (go_at_call 40;refine hen.mono ?_;rintro e wF ⟨rfl,hgF⟩;have HgF:=hid hgF;clear hgF);go_roundw
       case rel=>exact⟨g2,s',k+1,m,LF++wiF p s L,LC,A6,A4,c6,c4,hkm,by simp,rfl,rfl,by go_num,HID.out.grow (Zd HgF.out _),hid (by have:=HR2.out;rwa [Hd.out,List.append_nil] at this)⟩
       case measure=>simp[intOf];omega
      |true=>
       rw[hd] at hen;have Hd:=hid (show Yab s'=[s'.ent] by unfold Yab;rw[hd];rfl);simp only[if_true,Zhm] at hen;clear hd;obtain⟨⟨⟨e0,e1,e2⟩,e3⟩,hee⟩:∃ q,q=s'.ent:=⟨_,rfl⟩
       rw[<-hee] at hen Hd;clear hee;simp only at hen;go_upto_region 31 with (go_at_call 40;refine hen.mono ?_;rintro e wF ⟨rfl,hgF⟩;have HgF:=hid hgF;clear hgF)
       obtain⟨wG,hwG⟩:∃ wG,wG=wF.alloc (.cells #[.int .i64 e0,.int .i64 e1,.int .i64 e2,.int .i64 e3] 81):=⟨_,rfl⟩
       rw[<-hwG];have hbG:wG.heap[wF.heap.size]?=some (.cells #[.int .i64 e0,.int .i64 e1,.int .i64 e2,.int .i64 e3] 81 (0,0)):=by rw[hwG];exact La _ _
       have hIG:=HID.out.grow (show wD.grownBy wG none by rw[hwG];exact Zd HgF.out _);have x0:wG.cell? ⟨wF.heap.size,0,none⟩=some (.int .i64 e0):=(Za hbG).1 0;have x1:wG.cell? ⟨wF.heap.size,1,none⟩=some (.int .i64 e1):=(Za hbG).1 1;have x2:wG.cell? ⟨wF.heap.size,2,none⟩=some (.int .i64 e2):=(Za hbG).1 2;have x3:wG.cell? ⟨wF.heap.size,3,none⟩=some (.int .i64 e3):=(Za hbG).1 3;obtain⟨A9,c9,wI,happ,hI9⟩:=(hIG.grow (Lc wG (.cells #[.int .i64 e0,.int .i64 e1,.int .i64 e2,.int .i64 e3] 81) none)).appC (((e0,e1,e2),e3):CK) (La wG (.cells #[.int .i64 e0,.int .i64 e1,.int .i64 e2,.int .i64 e3] 81)) (by have:=HR.out.clen;omega) 100;have HI9:=hid hI9;clear hIG hwG hbG hen hI9;go_wp2_with (refine Yft happ rfl rfl rfl rfl ?_);clear happ x0 x1 x2 x3;go_roundw
       case rel=>exact⟨g2,s',k+1,m,LF++wiF p s L,LC++[((e0,e1,e2),e3)],A6,A9,c6,c9,hkm,by simp,by simp,rfl,by go_num,HI9.out,hid (by have:=HR2.out;rwa [Hd.out] at this)⟩
       case measure=>simp[intOf];omega
    ·obtain rfl:k=mv:=by omega
     have hk1:¬ ((k:Int)<(k:Int)):=by omega
     go_upto_region 33 with (first
                             |(go_at_call 41;refine hfc.mono ?_;rintro e w5 ⟨L,v2,rfl,hL,ho,hg5⟩;obtain⟨A5,c5,rfl,-,-,-,-⟩:=Zz ho;obtain⟨A6,c6,wz,happ,hI6⟩:=(HIr.out.grow hg5).appF ho (by have h1:=HR.out.flen;have h2:=Ygd Hz.out.1 HIr.out.st.ok HIr.out.st.nd hL;omega) 84;have HL:=hid (HR.out.last HO.out.1 rfl hL);have HIz:=hid hI6;clear hL ho hg5 hI6)
                             |(refine Yft happ rfl rfl rfl rfl ?_))
     obtain⟨LZ,hLZ⟩:∃ LZ,LZ=LF++wiF p s L:=⟨_,rfl⟩
     rw[<-hLZ] at HIz HL;rw[show LF.length+(wiF p s L).length=LZ.length by rw[hLZ,List.length_append]];have HTq:=hid (fun (W':World) (hg:wz.grownBy W' none)=>HT.out W' (Zb HIz.out.two.grown hg));have HKF:=hid (HO.out.2.1.kept (Zb Hg23.out HIz.out.two.grown) (Classical.em _));have HKC:=hid (HO.out.2.2.1.kept (Zb Hg23.out HIz.out.two.grown) (Classical.em _));have HZF:=hid HIz.out.rF;have HZC:=hid HIz.out.rC;have hzf:LZ.length<=9223372036854775807:=by obtain⟨_,_,-,h2,h3,-,-⟩:=Zz HZF.out;unfold maxLen at h3;omega
     have hzc:LC.length<=9223372036854775807:=by obtain⟨_,_,-,h2,h3,-,-⟩:=Zz HZC.out;unfold maxLen at h3;omega
     have hst:∀ W',wz.grownBy W' none->_:=fun (W':World) (hg:wz.grownBy W' none)=>Us (HIz.out.grow hg).two.ma
     rw[HIz.out.gm] at hst;have Hst:=hid hst;have Hs6:=hid HIz.out.two.ok.stop;have Hgw:=hid (Zb HH.out.grown (Zb Hg3.out HIz.out.two.grown));have HgQ:=hid (Lb wz none);clear hLZ happ hfc t3 hk1 hst;go_wp2_with fail;go_loopw [11,24] (fun s11 s24 wr=>∃ i:Nat,i<=FL.length/\s11=.int .i64 i/\s24=.int .i64 i/\Hid (wz.grownBy wr none)) (fun _ s24 _=>FL.length-(intOf s24).toNat)
     case atStart=>exact⟨0,Ln _,rfl,rfl,HgQ.out⟩
     case round=>
      obtain⟨i,hi,rfl,rfl,hgr⟩:=hrel;have t0:wr.cell? ⟨tb,0,none⟩=some (.slice A1 FL.length c1):=(Za (HTq.out wr hgr.out)).1 0
      by_cases hil:i<FL.length
      ·obtain⟨x,hx⟩:∃ x,FL[i]?=some x:=⟨_,Ld hil⟩
       obtain⟨G,kc,eG,-,fG⟩:=Yam HKF.out hx;injection eG with eG _ ec
       subst eG;subst ec;have Hxin:=hid ((HL.out.1 x).1 (Ll hx));have HfG:=hid fG;clear fG hx;go_upto_block 3 with (fail)
       go_cut [11,25] from 131 to 148 (fun s11 s25 wx=>s11=.int .i64 ((i+1:Nat):Int)/\Hid (wz.grownBy wx none))
       case first=>
        clear t0;go_wp2_with fail;go_loopw [11,25] (fun s11 s25 wr=>∃ k:Nat,k<=LZ.length/\s11=.int .i64 i/\s25=.int .i64 k/\Hid (x∉LZ.take k)/\Hid (wz.grownBy wr none)) (fun _ s25 _=>LZ.length-(intOf s25).toNat)
        case atStart=>exact⟨0,Ln _,rfl,rfl,hid (by simp),hgr.out⟩
        case round=>
         obtain⟨k,hk,rfl,rfl,hnot,hgq⟩:=hrel;have hkl:k<LZ.length:=(Nat.lt_or_ge k LZ.length).elim id fun h=>absurd Hxin.out (by have:=hnot.out;rwa [List.take_of_length_le h] at this)
         have t0:wr.cell? ⟨tb,0,none⟩=some (.slice (some ⟨G,0,none⟩) FL.length c1):=(Za (HTq.out wr hgq.out)).1 0;obtain⟨y,hy⟩:∃ y,LZ[k]?=some y:=⟨_,Ld hkl⟩
         obtain⟨J,jc,eJ,-,fJ⟩:=Yam HZF.out hy;injection eJ with eJ _ ej
         subst eJ;subst ej;obtain⟨a0,a1,a2,a3,a4⟩:=fJ wr hgq.out;obtain⟨b0,b1,b2,b3,b4⟩:=HfG.out wr hgq.out
         by_cases hyx:y=x
         ·subst hyx;clear hy fJ;go_upto_region 39 with (fail)
          go_quiet (fail);go_wp2_with fail;go_meet;exact⟨by go_num,Zg hgq.out nq⟩
         ·have Hq:=hid (show x∉LZ.take (k+1) from fun hm=>by
           rw[List.take_add_one,hy] at hm
           rcases List.mem_append.1 hm with hm|hm
           ·exact hnot.out hm
           ·simp at hm
            exact hyx hm.symm)
          have he:=fun w=>(keyFK.eqn y x w).trans (by rw[beq_eq_false_iff_ne.2 hyx])
          clear hy fJ;go_upto_region 39 with (fail)
          refine wp_region_held_drew (S:=fun W'=>W'=wr.drew) (by kernel_rfl) rfl (fun h0=>?_);refine tk1 0 h0 ?_;refine tk1 1 h0 ?_;refine tk1 2 h0 ?_;simp only[Act.put,Lg,Lh,Li];refine tk1 3 h0 ?_;refine tk1 4 h0 ?_;refine tk1 5 h0 ?_;simp only[Act.put,Lg,Lh,Li];refine tk1 6 h0 ?_;refine tk1 7 h0 ?_;refine tk1 8 h0 ?_;simp only[Act.put,Lg,Lh,Li];refine tk1 9 h0 ?_ (hy:=fun w _=>Ygj rfl rfl rfl (by kernel_rfl) he w);simp only[Act.put,Lg,Lh,Li];refine wpAnyH_done (by kernel_rfl) ?_ _;go_wp2_with fail;go_roundw
          case rel=>exact⟨k+1,by omega,rfl,by go_num,Hq.out,Zf hgq.out⟩
          case measure=>simp[intOf];omega
       case rest=>
        obtain⟨rfl,hgx⟩:=hcut;clear t0;go_wp2_with fail;go_roundw
        case rel=>exact⟨i+1,by omega,rfl,by go_num,hgx.out⟩
        case measure=>simp[intOf];omega
      ·obtain rfl:i=FL.length:=by omega
       have HgQ:=hgr;clear hgr;go_wp2_with fail;go_loopw [12,26] (fun s12 s26 wr=>∃ i:Nat,i<=CL.length/\s12=.int .i64 i/\s26=.int .i64 i/\Hid (wz.grownBy wr none)) (fun _ s26 _=>CL.length-(intOf s26).toNat)
       case atStart=>exact⟨0,Ln _,rfl,rfl,HgQ.out⟩
       case round=>
        obtain⟨i,hi,rfl,rfl,hgr⟩:=hrel;have t0:wr.cell? ⟨tb,1,none⟩=some (.slice A2 CL.length c2):=(Za (HTq.out wr hgr.out)).1 1
        by_cases hil:i<CL.length
        ·obtain⟨x,hx⟩:∃ x,CL[i]?=some x:=⟨_,Ld hil⟩
         obtain⟨G,kc,eG,-,fG⟩:=Yem HKC.out hx;injection eG with eG _ ec
         subst eG;subst ec;have Hxin:=hid ((HL.out.2.1 x).1 (Ll hx));have HfG:=hid fG;clear fG hx;go_upto_block 7 with (fail)
         go_cut [12,27] from 156 to 173 (fun s12 s27 wx=>s12=.int .i64 ((i+1:Nat):Int)/\Hid (wz.grownBy wx none))
         case first=>
          clear t0;go_wp2_with fail;go_loopw [12,27] (fun s12 s27 wr=>∃ k:Nat,k<=LC.length/\s12=.int .i64 i/\s27=.int .i64 k/\Hid (x∉LC.take k)/\Hid (wz.grownBy wr none)) (fun _ s27 _=>LC.length-(intOf s27).toNat)
          case atStart=>exact⟨0,Ln _,rfl,rfl,hid (by simp),hgr.out⟩
          case round=>
           obtain⟨k,hk,rfl,rfl,hnot,hgq⟩:=hrel;have hkl:k<LC.length:=(Nat.lt_or_ge k LC.length).elim id fun h=>absurd Hxin.out (by have:=hnot.out;rwa [List.take_of_length_le h] at this)
           have t0:wr.cell? ⟨tb,1,none⟩=some (.slice (some ⟨G,0,none⟩) CL.length c2):=(Za (HTq.out wr hgq.out)).1 1;obtain⟨y,hy⟩:∃ y,LC[k]?=some y:=⟨_,Ld hkl⟩
           obtain⟨J,jc,eJ,-,fJ⟩:=Yem HZC.out hy;injection eJ with eJ _ ej
           subst eJ;subst ej;obtain⟨a0,a1,a2,a3⟩:=fJ wr hgq.out;obtain⟨b0,b1,b2,b3⟩:=HfG.out wr hgq.out
           by_cases hyx:y=x
           ·subst hyx;clear hy fJ;go_upto_region 47 with (fail)
            go_quiet (fail);go_wp2_with fail;go_meet;exact⟨by go_num,Zg hgq.out nq⟩
           ·have Hq:=hid (show x∉LC.take (k+1) from fun hm=>by
             rw[List.take_add_one,hy] at hm
             rcases List.mem_append.1 hm with hm|hm
             ·exact hnot.out hm
             ·simp at hm
              exact hyx hm.symm)
            have he:=fun w=>(keyCK.eqn y x w).trans (by rw[beq_eq_false_iff_ne.2 hyx])
            clear hy fJ;go_upto_region 47 with (fail)
            refine wp_region_held_drew (S:=fun W'=>W'=wr.drew) (by kernel_rfl) rfl (fun h0=>?_);refine tk1 0 h0 ?_;refine tk1 1 h0 ?_;refine tk1 2 h0 ?_;simp only[Act.put,Lg,Lh,Li];refine tk1 3 h0 ?_;refine tk1 4 h0 ?_;refine tk1 5 h0 ?_;simp only[Act.put,Lg,Lh,Li];refine tk1 6 h0 ?_;refine tk1 7 h0 ?_;refine tk1 8 h0 ?_;simp only[Act.put,Lg,Lh,Li];refine tk1 9 h0 ?_ (hy:=fun w _=>Ygj rfl rfl rfl (by kernel_rfl) he w);simp only[Act.put,Lg,Lh,Li];refine wpAnyH_done (by kernel_rfl) ?_ _;go_wp2_with fail;go_roundw
            case rel=>exact⟨k+1,by omega,rfl,by go_num,Hq.out,Zf hgq.out⟩
            case measure=>simp[intOf];omega
         case rest=>
          obtain⟨rfl,hgx⟩:=hcut;clear t0;go_wp2_with fail;go_roundw
          case rel=>exact⟨i+1,by omega,rfl,by go_num,hgx.out⟩
          case measure=>simp[intOf];omega
        ·obtain rfl:i=CL.length:=by omega
         have HgQ:=hgr;clear hgr;have b0:wr.cell? ⟨tb,0,none⟩=some (.slice A1 FL.length c1):=(Za (HTq.out wr HgQ.out)).1 0;have b1:wr.cell? ⟨tb,1,none⟩=some (.slice A2 CL.length c2):=(Za (HTq.out wr HgQ.out)).1 1;have b2:wr.cell? ⟨tb,2,none⟩=some (.int .u8 st):=(Za (HTq.out wr HgQ.out)).1 2;go_upto_region 49 with (fail)
         go_cut [206] from 174 to 206 (fun s206 wx=>s206=.bool false/\Hid (wz.grownBy wx none))
         case first=>
          by_cases h0:s.stop=0
          ·obtain rfl:st=7:=by have:=HL.out.2.2;rwa [if_pos h0] at this
           have hst':=(Hst.out _ (Zf HgQ.out)).mono (R':=fun e w'=>e=.returned (.int .u8 0)/\wr.drew=w') (fun e w' h=>⟨by rw[h.1,h0];rfl,h.2⟩);refine wp_region_held_drew (S:=fun W'=>W'.cell? ⟨tb,0,none⟩=some (.slice A1 FL.length c1)/\W'.cell? ⟨tb,1,none⟩=some (.slice A2 CL.length c2)/\W'.cell? ⟨tb,2,none⟩=some (.int .u8 7)) (by kernel_rfl) ⟨b0,b1,b2⟩ (fun h0=>?_);refine tk1 0 h0 ?_;refine tk1 1 h0 ?_;refine tk1 2 h0 ?_;simp only[Act.put,Lg,Lh,Li];refine tk1 3 h0 ?_;refine tk1 4 h0 ?_;refine tk1 5 h0 ?_;simp only[Act.put,Lg,Lh,Li];refine tk1 6 h0 ?_;refine tk1 7 h0 ?_;refine tk1 8 h0 ?_;simp only[Act.put,Lg,Lh,Li];refine tk1 9 h0 ?_;refine tk1 10 h0 ?_;refine tk1 11 h0 ?_;simp only[Act.put,Lg,Lh,Li];refine tk1 12 h0 ?_;refine tk1 13 h0 ?_;refine tk1 14 h0 ?_;simp only[Act.put,Lg,Lh,Li];refine tk1 15 h0 ?_;refine tk1 16 h0 ?_;simp only[Act.put,Lg,Lh,Li];refine tkc 17 (by kernel_rfl) fun K hK=>?_
           (go_simp;go_at_call 39;refine hst'.mono ?_;rintro e w8 ⟨rfl,rfl⟩)
           refine hK.out _ _ h0 fun _=>?_
           try simp only[Act.put,Lg,Lh,Li]
           refine tk1 18 h0 ?_;refine tk1 19 h0 ?_;refine tk1 20 h0 ?_;simp only[Act.put,Lg,Lh,Li];refine tk1 21 h0 ?_;refine tk1 22 h0 ?_;refine tk1 23 h0 ?_;simp only[Act.put,Lg,Lh,Li];refine tk1 24 h0 ?_;refine tk1 25 h0 ?_;simp only[Act.put,Lg,Lh,Li];refine tk0 26 h0 ?_;refine tk0 27 h0 ?_;refine tk0 28 h0 ?_;simp only[Act.put,Lg,Lh,Li];refine tkn 29 (by kernel_rfl) h0 ?_;simp only[Act.put,Lg,Lh,Li];refine tk0 30 h0 ?_;refine tk1 31 h0 ?_;refine tk1 32 h0 ?_;simp only[Act.put,Lg,Lh,Li];refine wpAnyH_done (by kernel_rfl) ?_ _;go_wp2_with fail;go_meet;exact⟨rfl,Zf HgQ.out⟩
          ·obtain rfl:st=s.stop:=by have:=HL.out.2.2;rwa [if_neg h0] at this
           have hst':=Hst.out _ (Zf HgQ.out);have n1:¬ ((s.stop:Int)=0):=by omega
           have n2:¬ ((s.stop:Int)=7):=by have:=Hs6.out;omega
           have n3:((s.stop:Int) == 0)=false:=by rw[beq_eq_false_iff_ne];omega
           have n4:((s.stop:Int) == 7)=false:=by rw[beq_eq_false_iff_ne];omega
           have n5:((s.stop:Int) != 7)=true:=by rw[bne,n4];rfl
           refine wp_region_held_drew (S:=fun W'=>W'.cell? ⟨tb,0,none⟩=some (.slice A1 FL.length c1)/\W'.cell? ⟨tb,1,none⟩=some (.slice A2 CL.length c2)/\W'.cell? ⟨tb,2,none⟩=some (.int .u8 s.stop)) (by kernel_rfl) ⟨b0,b1,b2⟩ (fun h0=>?_);refine tk1 0 h0 ?_;refine tk1 1 h0 ?_;refine tk1 2 h0 ?_;simp only[Act.put,Lg,Lh,Li];refine tk1 3 h0 ?_;refine tk1 4 h0 ?_;refine tk1 5 h0 ?_;simp only[Act.put,Lg,Lh,Li];refine tk1 6 h0 ?_;refine tk1 7 h0 ?_;refine tk1 8 h0 ?_;simp only[Act.put,Lg,Lh,Li];refine tk1 9 h0 ?_;refine tk1 10 h0 ?_;refine tk1 11 h0 ?_;simp only[Act.put,Lg,Lh,Li];refine tk1 12 h0 ?_;refine tk1 13 h0 ?_;refine tk1 14 h0 ?_;simp only[Act.put,Lg,Lh,Li];refine tk1 15 h0 ?_;refine tk1 16 h0 ?_;simp only[Act.put,Lg,Lh,Li];refine tkc 17 (by kernel_rfl) fun K hK=>?_
           (go_simp;go_at_call 39;refine hst'.mono ?_;rintro e w8 ⟨rfl,rfl⟩)
           refine hK.out _ _ h0 fun _=>?_
           try simp only[Act.put,Lg,Lh,Li]
           refine tk1 18 h0 ?_;refine tk1 19 h0 ?_;refine tk1 20 h0 ?_;simp only[Act.put,Lg,Lh,Li];refine tk1 21 h0 ?_;refine tk1 22 h0 ?_;refine tk1 23 h0 ?_;simp only[Act.put,Lg,Lh,Li];refine tk1 24 h0 ?_;refine tk1 25 h0 ?_;simp only[Act.put,Lg,Lh,Li];refine tk1 26 h0 ?_;refine tk1 27 h0 ?_;refine tk1 28 h0 ?_;simp only[Act.put,Lg,Lh,Li];refine tkc 29 (by kernel_rfl) fun K hK=>?_
           (go_simp;go_at_call 39;refine hst'.mono ?_;rintro e w8 ⟨rfl,rfl⟩)
           refine hK.out _ _ h0 fun _=>?_
           try simp only[Act.put,Lg,Lh,Li]
           refine tk1 30 h0 ?_;refine tk1 31 h0 ?_;refine tk1 32 h0 ?_;simp only[Act.put,Lg,Lh,Li];refine wpAnyH_done (by kernel_rfl) ?_ _;go_wp2_with fail;go_meet;exact⟨rfl,Zf HgQ.out⟩
         case rest=>
          obtain⟨rfl,Hgv⟩:=hcut;clear b0 b1 b2;go_wp2_with fail;go_loopw [28] (fun s28 wr=>∃ i:Nat,i<=LZ.length/\s28=.int .i64 i/\Hid (wz.grownBy wr none)) (fun s28 _=>LZ.length-(intOf s28).toNat)
          case atStart=>exact⟨0,Ln _,rfl,Hgv.out⟩
          case round=>
           obtain⟨i,hi,rfl,hgr⟩:=hrel
           by_cases hil:i<LZ.length
           ·obtain⟨y,hy⟩:∃ y,LZ[i]?=some y:=⟨_,Ld hil⟩
            obtain⟨G,kc,eG,-,fG⟩:=Yam HZF.out hy;injection eG with eG _ ec
            subst eG;subst ec;have Hyin:=hid ((HL.out.1 y).2 (Ll hy));have HfG:=hid fG;clear fG hy;go_wp2_with fail;go_loopw [29,30] (fun s29 s30 wr=>∃ (k:Nat) (b:Bool),k<=FL.length/\s29=.bool b/\s30=.int .i64 k/\Hid (b=true\/y∉FL.take k)/\Hid (wz.grownBy wr none)) (fun _ s30 _=>FL.length-(intOf s30).toNat)
            case atStart=>exact⟨0,false,Ln _,rfl,rfl,hid (by simp),hgr.out⟩
            case round=>
             obtain⟨k,b,hk,rfl,rfl,hor,hgq⟩:=hrel;have t0:wr.cell? ⟨tb,0,none⟩=some (.slice A1 FL.length c1):=(Za (HTq.out wr hgq.out)).1 0
             cases b with
             |true=>
              by_cases hkl:(k:Int)<(FL.length:Int)
              ·go_wp2_with fail;clear t0;go_roundw
               case rel=>exact⟨i+1,by omega,by go_num,hgq.out⟩
               case measure=>simp[intOf];omega
              ·go_wp2_with fail;clear t0;go_roundw
               case rel=>exact⟨i+1,by omega,by go_num,hgq.out⟩
               case measure=>simp[intOf];omega
             |false=>
              have hnot:y∉FL.take k:=hor.out.elim (fun e=>by cases e) id;have hkl:k<FL.length:=(Nat.lt_or_ge k FL.length).elim id fun h=>absurd Hyin.out (by rwa [List.take_of_length_le h] at hnot)
              obtain⟨x,hx⟩:∃ x,FL[k]?=some x:=⟨_,Ld hkl⟩
              obtain⟨J,jc,eJ,-,fJ⟩:=Yam HKF.out hx;injection eJ with eJ _ ej
              subst eJ;subst ej;obtain⟨a0,a1,a2,a3,a4⟩:=fJ wr hgq.out;obtain⟨d0,d1,d2,d3,d4⟩:=HfG.out wr hgq.out;have hkb:(k:Int)<(FL.length:Int):=by omega
              by_cases hxy:x=y
              ·subst hxy;clear hx fJ hnot;go_upto_region 58 with (fail)
               go_quiet (fail);clear t0;go_wp2_with fail;go_roundw
               case rel=>exact⟨k+1,true,by omega,rfl,by go_num,hid (by simp),Zg hgq.out nq⟩
               case measure=>simp[intOf];omega
              ·have Hq:=hid (show y∉FL.take (k+1) from fun hm=>by
                rw[List.take_add_one,hx] at hm
                rcases List.mem_append.1 hm with hm|hm
                ·exact hnot hm
                ·simp at hm
                 exact hxy hm.symm)
               have he:=fun w=>(keyFK.eqn x y w).trans (by rw[beq_eq_false_iff_ne.2 hxy])
               clear hx fJ hnot;go_upto_region 58 with (fail)
               refine wp_region_held_drew (S:=fun W'=>W'=wr.drew) (by kernel_rfl) rfl (fun h0=>?_);refine tk1 0 h0 ?_;refine tk1 1 h0 ?_;refine tk1 2 h0 ?_;simp only[Act.put,Lg,Lh,Li];refine tk1 3 h0 ?_;refine tk1 4 h0 ?_;refine tk1 5 h0 ?_;simp only[Act.put,Lg,Lh,Li];refine tk1 6 h0 ?_;refine tk1 7 h0 ?_;refine tk1 8 h0 ?_;simp only[Act.put,Lg,Lh,Li];refine tk1 9 h0 ?_ (hy:=fun w _=>Ygj rfl rfl rfl (by kernel_rfl) he w);simp only[Act.put,Lg,Lh,Li];refine tk1 10 h0 ?_;simp only[Act.put,Lg,Lh,Li];refine wpAnyH_done (by kernel_rfl) ?_ _;clear t0;go_wp2_with fail;go_roundw
               case rel=>exact⟨k+1,false,by omega,rfl,by go_num,hid (.inr Hq.out),Zf hgq.out⟩
               case measure=>simp[intOf];omega
           ·obtain rfl:i=LZ.length:=by omega
            have hgz:=Zb Hgw.out hgr.out;go_wp2_with (go_at_call 51;refine (Hwk.out _ hgz).mono ?_;rintro e wv ⟨rfl,hgv⟩;have hgv:=hid hgv);go_ret;exact⟨rfl,hgv.out⟩
  ·have hrun:=Yfj p _ AC cs.length cc B w1 (HH.out.le _ hg1) (HH.out.prog _ hg1) hz;go_upto_region 4 with (go_at_call 53;refine hrun.mono ?_;rintro e w2 ⟨rfl,hg2⟩)
   have hg3:=Zb hg1 (Zd hg2 (.cells #[.slice none 0 0,.slice none 0 0,.int .u8 0,.int .i64 0] 102));obtain⟨w3,hw3⟩:∃ w3,w3=w2.alloc (.cells #[.slice none 0 0,.slice none 0 0,.int .u8 0,.int .i64 0] 102):=⟨_,rfl⟩
   rw[<-hw3] at hg3 ⊢;have hc3:=HH.out.cell w3 hg3;have hnew:=Znc p _ w3 B (HH.out.le _ hg3) (HH.out.prog _ hg3) hz;clear hw3 hrun hc1;go_upto_region 5 with (go_at_call 31;refine hnew.mono ?_;rintro e w4 ⟨rfl,hg4⟩)
   have hg4':=Zb hg3 hg4;have hc4:=HH.out.cell w4 hg4';have hnew2:=Zkd p _ w4 B (HH.out.le _ hg4') (HH.out.prog _ hg4') hz;clear hnew hc3;go_upto_region 6 with (go_at_call 22;refine hnew2.mono ?_;rintro e w5 ⟨rfl,hg5⟩)
   have Hgz:=hid (Zb HH.out.grown (Zb hg4' hg5));clear hnew2 hc4;go_wp2_with (go_at_call 51;refine (Hwk.out _ Hgz.out).mono ?_;rintro e wz ⟨rfl,hgz⟩;have hgz:=hid hgz);go_ret;exact⟨rfl,hgz.out⟩

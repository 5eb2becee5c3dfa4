/- The contract of gnomonlaw14.StepOne: it answers true. Condition: the program and the choices lie in memory. -/
import Derived.Test.YtphnnmecmiodhaaGreatEKs
import Derived.Test.YtphnnmecmiodhaaGreatELsf
set_option maxHeartbeats 8000000
set_option maxRecDepth 100000
set_option linter.unusedVariables false
set_option linter.unusedSimpArgs false
set_option linter.unusedSectionVars false
namespace Go.Proofs.YtphnnmecmiodhaaGreat
open Lib(hid)
open Go.RowKit Go.Shelf
structure OneI (p:GProg) (w0:World) (B1 B2:Bs) (n1 n2:Nat) (v1 v2:Value) (m1 m2:Nat) (W:World) (g1 g2:SAd) (s:GM):Prop where
 pr:PairI w0 B1 B2 n1 n2 v1 v2 W g1 g2 s s
 ok:GMOk p s
 nd:KeysNd s
 e1:g1.m=m1
 e2:g2.m=m2
variable {p:GProg} {w0:World} {B1 B2:Bs} {n1 n2 m1 m2:Nat} {v1 v2:Value} {W W':World} {g1 g2:SAd} {s:GM}
theorem OneI.grow (h:OneI p w0 B1 B2 n1 n2 v1 v2 m1 m2 W g1 g2 s) (hg:W.grownBy W' none):OneI p w0 B1 B2 n1 n2 v1 v2 m1 m2 W' g1 g2 s:={ h with pr:=h.pr.grow hg }
theorem PairI.grown {s':GM} (h:PairI w0 B1 B2 n1 n2 v1 v2 W g1 g2 s s'):w0.grownBy W none:=h.base.all fun n h1 h2=>by omega
theorem Zyj (hN:NOk p) (hS:SOk p) (K:GMOk p s) (h0:s.stop=0) (c:Bool) (h1:(s.move p c).stop=0) (hpt:atP (s.move p c)=atP s) (hd:(s.move p c).acts.length=s.acts.length):
  ∃ f y x,p[(atP s).1]?=some f∧f.blocks[(atP s).2.1]?=some y∧y.code[(atP s).2.2]?=some x∧(x.op=12∨x.op=13):=by
 obtain⟨l,a,ha⟩:=Zfc (s:=s) fun e=>by have:=K.done.1 e;omega
 obtain⟨f,y,hf,hy,hx⟩:=K.at_ins ha;have hm:=(K.move hN hS h0 c ha).2;have e:atP s=a.pt:=by unfold atP;rw[if_pos h0,X1 ha]
 have e':atP (s.move p c)=(s.move p c).top.pt:=by unfold atP;rw[if_pos h1]
 rw[e];refine⟨f,y,_,hf,hy,hx,?_⟩;rw[e',e] at hpt;rw[ha] at hd;unfold MvOk at hm
 rcases hm with ⟨-,-,-,-,hac,-⟩|⟨-,-,hac⟩|⟨-,-,-,-,ho⟩
 ·have:=congrArg List.length hac;simp at this hd;omega
 ·have:=congrArg List.length hac;simp at this hd;omega
 ·exact ho h1 hpt
theorem odd_and (c:Int):decide (bits .and .i64 c 1 % 2=1)=decide (c % 2=1):=by
 rw[Zks,decide_eq_decide];omega
theorem one_any (p:GProg) (vp vc:Value) (cs:List Int) (k:Int) (B:Nat) (w:World) (hB:B≤w.heap.size) (h:ProgAt w B vp p) (hcs:SlAt intR 1 w B vc cs):
  Calls Tryz.prog 8 #[.agg #[vp],vc,.int .i64 k] w fun e w'=>e=.returned (.bool true)∧w.grownBy w' none:=by
 obtain⟨A,c,rfl,m1,m2,m3,-⟩:=h.open_;obtain⟨AC,cc,rfl,o1,o2,o3,-⟩:=hcs.open_;have hH:=Zqk hB h;obtain⟨W,hW⟩:∃ W:World,W=w.alloc (.cells #[.slice A p.length c] 47):=⟨_,rfl⟩
 rw[←hW] at hH;have hgr:=Zdt p _ W B (hH.le W (World.grownBy.refl _ _)) (hH.prog W (World.grownBy.refl _ _));have hc:=hH.cell W (World.grownBy.refl _ _);have HH:=hid hH;have HC:=hid hcs;have HB:=hid hB;clear h hcs hH;go_enter Tryz.func8,Tryz.ntmps8;go_upto_region 1 with (fail)
 rw[←hW];clear hW
 repeat go_step
 refine hgr.mono ?_;rintro e w1 ⟨bg,rfl,hg1⟩;have hc1:=HH.out.cell w1 hg1;have Hg1:=hid (Zb HH.out.grown hg1);clear hc hgr
 cases bg with
 |true=>
  go_wp2_with (go_at_call 30;refine (Xi _).mono ?_;rintro e w2 ⟨rfl,hg2⟩);go_ret;exact⟨rfl,Zb Hg1.out hg2⟩
 |false=>
  by_cases h200:(200:Int)<(cs.length:Int)
  ·go_wp2_with (go_at_call 30;refine (Xi _).mono ?_;rintro e w2 ⟨rfl,hg2⟩);go_ret;exact⟨rfl,Zb Hg1.out hg2⟩
  ·by_cases hz:(Y5 p).1=0
   ·have hnew:=Zgx p _ w1 B (HH.out.le _ hg1) (HH.out.prog _ hg1) hz;go_upto_region 4 with (go_at_call 31;refine hnew.mono ?_;rintro e w2 ⟨B1,lo1,ms1,vq1,ga,rfl,hE1,hM1,k1,k2,k3,hg2⟩)
    have hc2:=HH.out.cell w2 (Zb hg1 hg2);have hnew2:=Zgx p _ w2 B (HH.out.le _ (Zb hg1 hg2)) (HH.out.prog _ (Zb hg1 hg2)) hz;clear hnew hc1;go_upto_region 5 with (go_at_call 31;refine hnew2.mono ?_;rintro e w3 ⟨B2,lo2,ms2,vq2,gb,rfl,hE2,hM2,j1,j2,j3,hg3⟩)
    have hI:OneI p W B1 B2 ms1 ms2 vq1 vq2 ga.m gb.m w3 ga gb (gm0 p):=⟨PairI.start hg1 hM1 k2 k3 hg2 hM2 j1 j2 j3 hg3,Zoi (Jt hz),keysNd0 p,rfl,rfl⟩
    have HE1:=hid hE1;have HE2:=hid hE2;have HN:=hid (And.intro (Jt hz) (Zph hz));have HI:=hid hI;obtain⟨ma,hma⟩:∃ ma,ma=ga.m:=⟨_,rfl⟩
    obtain⟨mb,hmb⟩:∃ mb,mb=gb.m:=⟨_,rfl⟩
    rw[←hma,←hmb] at HI;rw[←hma,←hmb];clear hnew2 hM1 hM2 hE1 hE2 hI hc2 k1 k2 k3 j1 j2 j3 hg1 hg2 hg3 hz;go_wp2_with fail;go_loopw [11] (fun s11 wr=>∃ i:Nat,i≤cs.length∧s11=.int .i64 i∧Hid (∃ g1 g2 s,OneI p W B1 B2 ms1 ms2 vq1 vq2 ma mb wr g1 g2 s)) (fun s11 _=>cs.length-(intOf s11).toNat)
    case atStart=>exact⟨0,Nat.zero_le _,rfl,ga,gb,_,HI.out⟩
    case round=>
     obtain⟨i,hi,rfl,hh⟩:=hrel;obtain⟨g1,g2,s,hO⟩:=hh.out;clear hh HI hma hmb;have hst:=Us hO.pr.m1;have hat:=Zxq hO.pr.m1 hO.ok;rw[hO.e1] at hst hat;obtain⟨st,hs0⟩:∃ st,st=s.stop:=⟨_,rfl⟩
     obtain⟨⟨pf,pb,pi⟩,hpt⟩:∃ q,q=atP s:=⟨_,rfl⟩
     obtain⟨d,hd⟩:∃ d,d=s.acts.length:=⟨_,rfl⟩
     obtain⟨is0,his⟩:∃ b,b=decide (s.stop=0):=⟨_,rfl⟩
     have HS:=hid (And.intro hs0 (And.intro hpt (And.intro hd his)));have hd64:d≤64:=by rw[hd];exact hO.ok.depth
     rw[←hpt,←his] at hat;rw[←hs0] at hst;simp only at hat;have HO:=hid hO;clear hO hs0 hpt hd his
     by_cases hil:i<cs.length
     ·obtain⟨ci,bC,oC,hci,hAC,hbC,hrC,-⟩:=HC.out.at_ hil;have hrC':∀ W',w.grownBy W' none→W'.cell? ⟨bC,oC+i,none⟩=some (.int .i64 ci):=fun W' hg=>by
       rw[Nat.mul_one] at hrC;exact (World.cell?_of_block (hg.block bC (Nat.lt_of_lt_of_le hbC HB.out) (by simp))).trans hrC
      have HrC:=hid hrC'
      cases hAC
      clear hrC hrC' hbC hci;go_upto_region 13 with (go_at_call 39;refine hst.mono ?_;rintro e w' ⟨rfl,rfl⟩)
      go_upto_region 14 with (go_at_call 32;refine hat.mono ?_;rintro e w4 ⟨rfl,hg4⟩)
      obtain⟨w5,hw5⟩:∃ w5,w5=w4.alloc (.cells #[.int .i64 pf,.int .i64 pb,.int .i64 pi] 41):=⟨_,rfl⟩
      rw[←hw5];have hg5:wr.grownBy w5 none:=by rw[hw5];exact Zd hg4 _
      have hb5:w5.heap[w4.heap.size]?=some (.cells #[.int .i64 pf,.int .i64 pb,.int .i64 pi] 41 (0,0)):=by rw[hw5];exact World.alloc_heap_new _ _
      obtain⟨u,hu⟩:∃ u,u=w4.heap.size:=⟨_,rfl⟩
      rw[←hu] at hb5;rw[←hu];have hru:wr.heap.size≤u:=by rw[hu];exact hg4.size
      have HO5:=hid (HO.out.grow hg5);have hnot1:=hid (fun (q:SQ g1 u)=>by have:=HO.out.pr.m1.lt q;omega:¬ SQ g1 u);have hnot2:=hid (fun (q:SQ g2 u)=>by have:=HO.out.pr.m2.lt q;omega:¬ SQ g2 u);have hdp:=Q4 HO5.out.pr.m1;rw[HO.out.e1,←HS.out.2.2.1] at hdp;have Hb5:=hid hb5;clear hw5 hb5 hat hst hg4 hu hru;go_upto_region 15 with (go_at_call 38;refine hdp.mono ?_;rintro e w' ⟨rfl,rfl⟩)
      have hfc:=Zwx HE1.out HO5.out.pr.m1 HO5.out.ok HO5.out.nd;rw[HO.out.e1] at hfc;clear hdp;go_upto_region 16 with (go_at_call 41;refine hfc.mono ?_;rintro e w6 ⟨-,-,rfl,-,-,hg6⟩)
      have hva:=Zxf (HO5.out.grow hg6).pr.m1 k;rw[HO.out.e1] at hva;clear hfc;go_upto_region 17 with (go_at_call 35;refine hva.mono ?_;rintro e w7 ⟨rfl,hg7⟩)
      have Hg57:=hid (Zb hg6 hg7);have HO7:=hid (HO5.out.grow Hg57.out);have hmo:=Zxo HE1.out HO7.out.pr.m1 HO7.out.ok ci;have hrc:=HrC.out w7 (Zb HH.out.grown HO7.out.pr.grown);rw[HO.out.e1] at hmo;have hnd:=hid (HO.out.nd.move (p:=p) (decide (ci % 2=1)))
      have hmo2:=hid (fun (W':World) (hM:Ma B2 ms2 vq2 W' g2 s)=>by
       have:=Zxo HE2.out hM HO.out.ok (bits .and .i64 ci 1)
       rw[odd_and,HO.out.e2] at this
       exact this)
      obtain⟨S,hS⟩:∃ S,S=s.move p (decide (ci % 2=1)):=⟨_,rfl⟩
      rw[←hS] at hmo hmo2 hnd;have HSm:=hid hS;obtain⟨sS,hsS⟩:∃ sS,sS=S.stop:=⟨_,rfl⟩
      rw[←hsS] at hmo hmo2;have HsS:=hid hsS;clear hva hg5 hg6 hg7 hS hsS;go_upto_region 18 with (go_at_call 36;refine hmo.mono ?_;rintro e w8 ⟨rfl,hKS,g1',hm1,hMa1,hs1⟩)
      have hP8:=(HO7.out.pr).step1 hMa1 hs1;have HP8:=hid hP8;have Hb8:=hid (hs1.chg.at_ ((Hg57.out.block _ (Ze Hb5.out) (by simp)).trans Hb5.out) hnot1.out);have hrc8:=HrC.out w8 (Zb HH.out.grown hP8.grown);have hmo3:=hmo2.out w8 hP8.m2;have HKS:=hid hKS;have Hm1:=hid hm1;clear hP8 hrc hmo hmo2 hMa1 hs1 hKS hm1;obtain⟨dS,hdS⟩:∃ dS,dS=S.acts.length:=⟨_,rfl⟩
      have HdS:=hid hdS;have hdS64:dS≤64:=by rw[hdS];exact HKS.out.depth
      clear hdS;go_cut [100] from 77 to 100 (fun s100 wx=>s100=.bool false∧Hid (wx.heap[u]?=some (.cells #[.int .i64 pf,.int .i64 pb,.int .i64 pi] 41 (0,0)))∧Hid (∃ g2',OneI p W B1 B2 ms1 ms2 vq1 vq2 ma mb wx g1' g2' S))
      case first=>
       by_cases h0:st=0
       ·subst h0;go_wp2_with (go_at_call 36;refine hmo3.mono ?_;rintro e w9 ⟨rfl,-,g2',hm2,hMa2,hs2⟩;have HP9:=hid (HP8.out.step2 hMa2 hs2);have Hs2:=hid hs2;have Hm2:=hid hm2;clear hMa2 hs2 hm2);go_meet;exact⟨by first|rfl|simp,hid (Hs2.out.chg.at_ Hb8.out hnot2.out),hid ⟨g2',HP9.out,HKS.out,hnd.out,Hm1.out,Hm2.out⟩⟩
       ·have hn0:((st:Int) == 0)=false:=by rw[beq_eq_false_iff_ne];omega
        have hSs:S=s:=by
         rw[HSm.out];unfold GM.move;rw[if_neg (by rw[←HS.out.1];exact h0)]
        obtain rfl:sS=st:=by rw[HsS.out,hSs,←HS.out.1]
        obtain rfl:dS=d:=by rw[HdS.out,hSs,←HS.out.2.2.1]
        clear hSs;go_wp2_with (first|(go_at_call 36;refine hmo3.mono ?_;rintro e w9 ⟨rfl,-,g2',hm2,hMa2,hs2⟩;have HP9:=hid (HP8.out.step2 hMa2 hs2);have Hs2:=hid hs2;have Hm2:=hid hm2;have hdp:=Q4 HP9.out.m1;rw[Hm1.out,←HdS.out] at hdp;clear hMa2 hs2 hm2)|(go_at_call 38;refine hdp.mono ?_;rintro e w' ⟨rfl,rfl⟩));go_meet;exact⟨by first|rfl|simp,hid (Hs2.out.chg.at_ Hb8.out hnot2.out),hid ⟨g2',HP9.out,HKS.out,hnd.out,Hm1.out,Hm2.out⟩⟩
      case rest=>
       obtain⟨rfl,hb9,hO9⟩:=hcut;obtain⟨g2',hO9⟩:=hO9.out;have hat:=Zxq hO9.pr.m1 hO9.ok;rw[hO9.e1] at hat;obtain⟨⟨qf,qb,qi⟩,hqt⟩:∃ q,q=atP S:=⟨_,rfl⟩
       obtain⟨is1,hi1⟩:∃ b,b=decide (S.stop=0):=⟨_,rfl⟩
       rw[←hqt,←hi1] at hat;simp only at hat;have Hqt:=hid (And.intro hqt hi1);have HO9:=hid hO9;clear hO9 hqt hi1 hmo3 hrc8;go_upto_region 20 with (fail)
       go_upto_region 21 with (go_at_call 32;refine hat.mono ?_;rintro e wA ⟨rfl,hgA⟩)
       obtain⟨wB,hwB⟩:∃ wB,wB=wA.alloc (.cells #[.int .i64 qf,.int .i64 qb,.int .i64 qi] 41):=⟨_,rfl⟩
       rw[←hwB];have hgB:wc.grownBy wB none:=by rw[hwB];exact Zd hgA _
       have hbB:wB.heap[wA.heap.size]?=some (.cells #[.int .i64 qf,.int .i64 qb,.int .i64 qi] 41 (0,0)):=by rw[hwB];exact World.alloc_heap_new _ _
       have hbu:=(hgB.block _ (Ze hb9.out) (by simp)).trans hb9.out;have y0:=(Za hbu).1 0;have y1:=(Za hbu).1 1;have y2:=(Za hbu).1 2;have z0:=(Za hbB).1 0;have z1:=(Za hbB).1 1;have z2:=(Za hbB).1 2;have HOB:=hid (HO9.out.grow hgB);have hgW:=HOB.out.pr.grown;have hcB:=HH.out.cell wB hgW;have hdp:=Q4 HOB.out.pr.m1;rw[HOB.out.e1,←HdS.out] at hdp;have HgW:=hid hgW;clear hat hwB hgA hgB hbB hbu hb9 hgW;go_cut [133] from 106 to 133 (fun s133 wx=>s133=.bool false∧Hid (wB.grownBy wx none))
       case first=>
        by_cases hS0:S.stop=0
        ·obtain rfl:sS=0:=by rw[HsS.out,hS0]
         obtain rfl:is1=true:=by rw[Hqt.out.2,hS0];rfl
         by_cases h0:st=0
         ·subst h0
          by_cases e0:qf=pf
          ·subst e0
           by_cases e1:qb=pb
           ·subst e1
            by_cases e2:qi=pi
            ·subst e2
             by_cases e3:dS=d
             ·subst e3;have hqp:atP S=atP s:=by rw[←Hqt.out.1,←HS.out.2.1]
              have hci:=Zyj HN.out.1 HN.out.2 HO.out.ok HS.out.1.symm (decide (ci % 2=1)) (by rw[←HSm.out];exact hS0) (by rw[←HSm.out];exact hqp) (by rw[←HSm.out,←HdS.out,←HS.out.2.2.1]);rw[←HS.out.2.1] at hci;obtain⟨f,y,x,hf,hy,hx,ho⟩:=hci;have hcr:=Zya p _ wB B (HH.out.le _ HgW.out) (HH.out.prog _ HgW.out) hf hy hx ho;clear hf hy hx ho hqp;go_wp2_with (first|(go_at_call 38;refine hdp.mono ?_;rintro e w' ⟨rfl,rfl⟩)|(go_at_call 42;refine hcr.mono ?_;rintro e w' ⟨rfl,hgC⟩;have HgC:=hid hgC;clear hgC));go_meet;exact⟨by first|rfl|simp,HgC⟩
             ·have n3:((dS:Int) == d)=false:=by rw[beq_eq_false_iff_ne];omega
              go_wp2_with (go_at_call 38;refine hdp.mono ?_;rintro e w' ⟨rfl,rfl⟩);go_meet;exact⟨by first|rfl|simp,hid (World.grownBy.refl _ _)⟩
            ·have ne2:((qi:Int) == pi)=false:=by rw[beq_eq_false_iff_ne];omega
             go_wp2_with (go_at_call 38;refine hdp.mono ?_;rintro e w' ⟨rfl,rfl⟩);go_meet;exact⟨by first|rfl|simp,hid (World.grownBy.refl _ _)⟩
           ·have ne1:((qb:Int) == pb)=false:=by rw[beq_eq_false_iff_ne];omega
            go_wp2_with (go_at_call 38;refine hdp.mono ?_;rintro e w' ⟨rfl,rfl⟩);go_meet;exact⟨by first|rfl|simp,hid (World.grownBy.refl _ _)⟩
          ·have ne0:((qf:Int) == pf)=false:=by rw[beq_eq_false_iff_ne];omega
           go_wp2_with (go_at_call 38;refine hdp.mono ?_;rintro e w' ⟨rfl,rfl⟩);go_meet;exact⟨by first|rfl|simp,hid (World.grownBy.refl _ _)⟩
         ·have hn0:((st:Int) == 0)=false:=by rw[beq_eq_false_iff_ne];omega
          go_wp2_with (go_at_call 38;refine hdp.mono ?_;rintro e w' ⟨rfl,rfl⟩);go_meet;exact⟨by first|rfl|simp,hid (World.grownBy.refl _ _)⟩
        ·have hn0:((sS:Int) == 0)=false:=by rw[beq_eq_false_iff_ne,HsS.out];omega
         obtain rfl:is1=false:=by rw[Hqt.out.2];exact decide_eq_false hS0
         go_wp2_with (go_at_call 38;refine hdp.mono ?_;rintro e w' ⟨rfl,rfl⟩);go_meet;exact⟨by first|rfl|simp,hid (World.grownBy.refl _ _)⟩
       case rest=>
        obtain⟨rfl,hgx⟩:=hcut;have Hn:=hid (HOB.out.grow hgx.out);clear y0 y1 y2 z0 z1 z2 hcB hdp;go_wp2_with fail;go_roundw
        case rel=>exact⟨i+1,by omega,by go_num,g1',g2',S,Hn.out⟩
        case measure=>simp[intOf];omega
     ·obtain rfl:i=cs.length:=by omega
      go_upto_region 23 with (fail)
      go_upto_region 24 with (go_at_call 32;refine hat.mono ?_;rintro e w4 ⟨rfl,hg4⟩)
      obtain⟨w5,hw5⟩:∃ w5,w5=w4.alloc (.cells #[.int .i64 pf,.int .i64 pb,.int .i64 pi] 41):=⟨_,rfl⟩
      rw[←hw5];have hg5:wr.grownBy w5 none:=by rw[hw5];exact Zd hg4 _
      have hb5:w5.heap[w4.heap.size]?=some (.cells #[.int .i64 pf,.int .i64 pb,.int .i64 pi] 41 (0,0)):=by rw[hw5];exact World.alloc_heap_new _ _
      have HO5:=hid (HO.out.grow hg5);have hat2:=Zxq HO5.out.pr.m2 HO5.out.ok;rw[HO5.out.e2,←HS.out.2.1,←HS.out.2.2.2] at hat2;simp only at hat2;have Hb5:=hid hb5;clear hat hst hw5 hg4 hg5 hb5;go_upto_region 25 with (go_at_call 32;refine hat2.mono ?_;rintro e w6 ⟨rfl,hg6⟩)
      obtain⟨w7,hw7⟩:∃ w7,w7=w6.alloc (.cells #[.int .i64 pf,.int .i64 pb,.int .i64 pi] 41):=⟨_,rfl⟩
      rw[←hw7];have hg7:w5.grownBy w7 none:=by rw[hw7];exact Zd hg6 _
      have hb7:w7.heap[w6.heap.size]?=some (.cells #[.int .i64 pf,.int .i64 pb,.int .i64 pi] 41 (0,0)):=by rw[hw7];exact World.alloc_heap_new _ _
      have Hg7:=hid hg7;have Hb7:=hid hb7;have HO7:=hid (HO5.out.grow hg7);obtain⟨⟨⟨kd,ob,nn⟩,bb⟩,hvp⟩:∃ q,q=varP s k:=⟨_,rfl⟩
      have hv1:=Zxf HO7.out.pr.m1 k;rw[HO7.out.e1,←hvp] at hv1;simp only at hv1;have Hvp:=hid hvp;clear hat2 hw7 hg6 hg7 hb7 hvp;go_upto_region 26 with (go_at_call 35;refine hv1.mono ?_;rintro e w8 ⟨rfl,hg8⟩)
      obtain⟨w9,hw9⟩:∃ w9,w9=w8.alloc (.cells #[.int .u8 kd,.int .i64 ob,.int .i64 nn] 72):=⟨_,rfl⟩
      rw[←hw9];have hg9:w7.grownBy w9 none:=by rw[hw9];exact Zd hg8 _
      have hb9:w9.heap[w8.heap.size]?=some (.cells #[.int .u8 kd,.int .i64 ob,.int .i64 nn] 72 (0,0)):=by rw[hw9];exact World.alloc_heap_new _ _
      have Hg9:=hid hg9;have Hb9:=hid hb9;have HO9:=hid (HO7.out.grow hg9);have hv2:=Zxf HO9.out.pr.m2 k;rw[HO9.out.e2,←Hvp.out] at hv2;simp only at hv2;clear hv1 hw9 hg8 hg9 hb9;go_upto_region 27 with (go_at_call 35;refine hv2.mono ?_;rintro e wA ⟨rfl,hgA⟩)
      obtain⟨wB,hwB⟩:∃ wB,wB=wA.alloc (.cells #[.int .u8 kd,.int .i64 ob,.int .i64 nn] 72):=⟨_,rfl⟩
      rw[←hwB];have hgB:w9.grownBy wB none:=by rw[hwB];exact Zd hgA _
      have hbB:wB.heap[wA.heap.size]?=some (.cells #[.int .u8 kd,.int .i64 ob,.int .i64 nn] 72 (0,0)):=by rw[hwB];exact World.alloc_heap_new _ _
      have HOB:=hid (HO9.out.grow hgB);have b9:=(hgB.block _ (Ze Hb9.out) (by simp)).trans Hb9.out;have b7:=((Zb Hg9.out hgB).block _ (Ze Hb7.out) (by simp)).trans Hb7.out;have b5:=((Zb Hg7.out (Zb Hg9.out hgB)).block _ (Ze Hb5.out) (by simp)).trans Hb5.out;have x0:=(Za b5).1 0;have x1:=(Za b5).1 1;have x2:=(Za b5).1 2;have y0:=(Za b7).1 0;have y1:=(Za b7).1 1;have y2:=(Za b7).1 2;have u0:=(Za b9).1 0;have u1:=(Za b9).1 1;have u2:=(Za b9).1 2;have z0:=(Za hbB).1 0;have z1:=(Za hbB).1 1;have z2:=(Za hbB).1 2;have hd1:=Q4 HOB.out.pr.m1;have hd2:=Q4 HOB.out.pr.m2;have ht1:=Us HOB.out.pr.m1;have ht2:=Us HOB.out.pr.m2;have hf1:=Zwx HE1.out HOB.out.pr.m1 HOB.out.ok HOB.out.nd;have Hf2:=hid (fun (W':World) (hg:wB.grownBy W' none)=>Zwx HE2.out (HOB.out.grow hg).pr.m2 HOB.out.ok HOB.out.nd);rw[HOB.out.e1] at hd1 ht1 hf1;rw[HOB.out.e2] at hd2 ht2 Hf2;rw[←HS.out.2.2.1] at hd1 hd2;rw[←HS.out.1] at ht1 ht2;have HgB:=hid (Zb HH.out.grown HOB.out.pr.grown);clear hv2 hwB hgA hgB hbB b9 b7 b5;go_wp2_with (first|(go_at_call 38;refine hd1.mono ?_;clear hd1;rintro e w' ⟨rfl,rfl⟩)|(go_at_call 38;refine hd2.mono ?_;clear hd2;rintro e w' ⟨rfl,rfl⟩)|(go_at_call 39;refine ht1.mono ?_;clear ht1;rintro e w' ⟨rfl,rfl⟩)|(go_at_call 39;refine ht2.mono ?_;clear ht2;rintro e w' ⟨rfl,rfl⟩)|(go_at_call 41;refine hf1.mono ?_;clear hf1;rintro e wC ⟨L,vL,rfl,hL,hoL,hgC⟩;have hf2:=Hf2.out wC hgC;have HL:=hid (And.intro hL (And.intro hoL hgC));clear hL hoL hgC)|(go_at_call 41;refine hf2.mono ?_;clear hf2;rintro e wD ⟨L',vL',rfl,hL',hoL',hgD⟩;obtain rfl:=hL'.uniq HL.out.1;have hsm:=Zyq _ _ _ _ wD _ _ ((Chg.grown (Q:=fun _=>False) hgD (fun r e=>by cases e)).owns HL.out.2.1 (fun _ _ e=>e)) hoL';have HgD:=hid hgD;clear hL' hoL' hgD)|(go_at_call 43;refine hsm.mono ?_;rintro e wE ⟨rfl,hgE⟩;have HgE:=hid hgE;clear hgE)|(go_at_call 30;refine (Xi _).mono ?_;rintro e wF ⟨rfl,hgF⟩;have HgF:=hid hgF;clear hgF));go_ret;exact⟨by first|rfl|simp,Zb HgB.out (Zb HL.out.2.2 (Zb HgD.out (Zb HgE.out HgF.out)))⟩
   ·have hnew:=Znc p _ w1 B (HH.out.le _ hg1) (HH.out.prog _ hg1) hz;go_upto_region 4 with (go_at_call 31;refine hnew.mono ?_;rintro e w2 ⟨rfl,hg2⟩)
    have hc2:=HH.out.cell w2 (Zb hg1 hg2);have hnew2:=Znc p _ w2 B (HH.out.le _ (Zb hg1 hg2)) (HH.out.prog _ (Zb hg1 hg2)) hz;clear hnew hc1;go_upto_region 5 with (go_at_call 31;refine hnew2.mono ?_;rintro e w3 ⟨rfl,hg3⟩)
    clear hnew2 hc2;go_wp2_with (go_at_call 30;refine (Xi _).mono ?_;rintro e w4 ⟨rfl,hg4⟩);go_ret;exact⟨rfl,Zb Hg1.out (Zb hg2 (Zb hg3 hg4))⟩
end Go.Proofs.YtphnnmecmiodhaaGreat

/- The contract of gnomonlaw14. Conditions in it. -/
import Derived.Test.YtphnnmecmiodhaaGreatEFq
import Derived.Test.YtphnnmecmiodhaaGreatERnc
import Derived.Test.YtphnnmecmiodhaaGreatEKs
set_option maxHeartbeats 8000000
set_option maxRecDepth 100000
set_option linter.all false
namespace Go.Proofs.YtphnnmecmiodhaaGreat
open Lib(hid)
open Go.RowKit Go.Shelf
theorem Ygn (p:GProg) (vp vc:Value) (cs:List Int) (B:Nat) (w:World) (hB:B<=w.heap.size) (h:ProgAt w B vp p) (hcs:SlAt intR 1 w B vc cs):
  Calls Tryz.prog 9 #[.agg #[vp],vc] w fun e w'=>e=.returned (.bool true)/\w.grownBy w' none:=by
 obtain⟨A,c,rfl,m1,m2,m3,-⟩:=h.open_;obtain⟨AC,cc,rfl,o1,o2,o3,-⟩:=hcs.open_;have hH:=Zqk hB h;obtain⟨W,hW⟩:∃ W:World,W=w.alloc (.cells #[.slice A p.length c] 47):=⟨_,rfl⟩
 rw[<-hW] at hH;have hgr:=Zdt p _ W B (hH.le W (Lb _ _)) (hH.prog W (Lb _ _));have hc:=hH.cell W (Lb _ _);have HH:=hid hH;have HC:=hid hcs;have HB:=hid hB;clear h hcs hH;go_enter Tryz.func9,Tryz.ntmps9;go_upto_region 1 with (fail)
 rw[<-hW];clear hW
 repeat go_step
 refine hgr.mono ?_;rintro e w1 ⟨bg,rfl,hg1⟩;have hc1:=HH.out.cell w1 hg1;have Hg1:=hid (Zb HH.out.grown hg1);clear hc hgr
 cases bg with
 |true=>
  go_wp2_with (go_at_call 30;refine (Xi _).mono ?_;rintro e w2 ⟨rfl,hg2⟩);go_ret;exact⟨rfl,Zb Hg1.out hg2⟩
 |false=>
  by_cases h200:(200:Int)<(cs.length:Int)
  ·go_wp2_with (go_at_call 30;refine (Xi _).mono ?_;rintro e w2 ⟨rfl,hg2⟩);go_ret;exact⟨rfl,Zb Hg1.out hg2⟩
  ·by_cases hz:(Y5 p).1=0
   ·have hnew:=Zgx p _ w1 B (HH.out.le _ hg1) (HH.out.prog _ hg1) hz;go_upto_region 4 with (go_at_call 31;refine hnew.mono ?_;rintro e w2 ⟨wB,lo,ms,vq,g,rfl,hE,hM,l1,l2,l3,hg2⟩)
    have hc2:=HH.out.cell w2 (Zb hg1 hg2);have hnew2:=Zkc p _ w2 B (HH.out.le _ (Zb hg1 hg2)) (HH.out.prog _ (Zb hg1 hg2)) (Zjs (Jt hz)) hz;clear hnew hc1;go_upto_region 5 with (go_at_call 22;refine hnew2.mono ?_;rintro e wS ⟨mS,rfl,hS,hg3⟩)
    have hI:PlI p w wS w2.heap.size wB ms vq wS g (gm0 p):=⟨TwoI.start Hg1.out hM (Zoi (Jt hz)) l2 l3 hg2 hg3,Ygv p,fun e=>by cases e⟩
    have HE:=hid hE;have HS:=hid hS;have HN:=hid (And.intro (Jt hz) (Zph hz));have HI:=hid hI;obtain⟨ma,hma⟩:∃ ma,ma=g.m:=⟨_,rfl⟩
    rw[<-hma];have Hma:=hid hma;clear hnew2 hM hS hE hI hc2 l1 l2 l3 hg1 hg2 hg3 hz hma;go_wp2_with fail;go_loopw [9] (fun s9 wr=>∃ i:Nat,i<=cs.length/\s9=.int .i64 i/\Hid (∃ g' s,g'.m=ma/\PlI p w wS w2.heap.size wB ms vq wr g' s)) (fun s9 _=>cs.length-(intOf s9).toNat)
    case atStart=>exact⟨0,Ln _,rfl,g,_,Hma.out.symm,HI.out⟩
    case round=>
     obtain⟨i,hi,rfl,hh⟩:=hrel;obtain⟨g',s,hgm,hO⟩:=hh.out;clear hh HI Hma
     by_cases hil:i<cs.length
     ·obtain⟨ci,bC,oC,hci,hAC,hbC,hrC,-⟩:=HC.out.at_ hil;have hrC':∀ W',w.grownBy W' none->W'.cell? ⟨bC,oC+i,none⟩=some (.int .i64 ci):=fun W' hg=>by
       rw[Nat.mul_one] at hrC;exact (Lj (hg.block bC (Lm hbC HB.out) (by simp))).trans hrC
      have HrC:=hid hrC'
      cases hAC
      have Hgm:=hid hgm;clear hrC hrC' hbC hci;have hat:=Zxq hO.two.ma hO.two.ok;rw[hgm] at hat;have HO:=hid hO;clear hO hgm
      by_cases h0:s.stop=0
      ·skip
       as_aux_lemma=>
        obtain⟨l,a,ha⟩:=HO.out.two.acts h0;obtain⟨f,y,hf,hy,hx⟩:=HO.out.two.ok.at_ins ha;have hap:atP s=a.pt:=by unfold atP;rw[if_pos h0,X1 ha]
        have hn6:((Yp p a.pt).op:Int)≠6:=by
         obtain⟨f',y',x',-,-,hf',hy',hx',h6,-⟩:=(HO.out.two.ok.acts a (by rw[ha];simp)).at_;rw[Qj hf' hy' hx'];omega
        rw[decide_eq_true h0,hap] at hat;obtain⟨z,hzd⟩:∃ z,z=Yp p a.pt:=⟨_,rfl⟩
        rw[<-hzd] at hx hn6;obtain⟨⟨pf,pb,pi⟩,hpt⟩:∃ q,q=a.pt:=⟨_,rfl⟩
        rw[<-hpt] at hf hy hx hat hap;simp only at hf hy hx hat;have Ha:=hid ha;have H0:=hid h0;have Hap:=hid hap;have Hpt:=hid hpt;have hz6:((z.op:Int) == 6)=false:=by rw[beq_eq_false_iff_ne];exact hn6
        clear ha hzd h0 hap hpt hn6;go_upto_region 13 with (go_at_call 32;refine hat.mono ?_;rintro e w3 ⟨rfl,hg3⟩)
        obtain⟨w4,hw4⟩:∃ w4,w4=w3.alloc (.cells #[.int .i64 pf,.int .i64 pb,.int .i64 pi] 41):=⟨_,rfl⟩
        rw[<-hw4];have hg4:wr.grownBy w4 none:=by rw[hw4];exact Zd hg3 _
        have hb4:w4.heap[w3.heap.size]?=some (.cells #[.int .i64 pf,.int .i64 pb,.int .i64 pi] 41 (0,0)):=by rw[hw4];exact La _ _
        obtain⟨u,hu⟩:∃ u,u=w3.heap.size:=⟨_,rfl⟩
        rw[<-hu] at hb4;rw[<-hu];have hins:=Zay ((HO.out.grow hg4).two.mapAt HS.out) hf hy hx;simp only[insV] at hins;have Hb4:=hid hb4;have k0:=(Za hb4).1 0;have k1:=(Za hb4).1 1;have k2:=(Za hb4).1 2;clear hw4 hb4 hat hg3 hu;go_upto_region 15 with (go_at_call 26;refine hins.mono ?_;rintro e w5 ⟨A5,d5,A6,d6,rfl,-,hg5⟩)
        obtain⟨w6,hw6⟩:∃ w6,w6=w5.alloc (.cells #[.int .u8 z.op,.string ⟨z.dst.toArray⟩,.string ⟨z.a.toArray⟩,.string ⟨z.b.toArray⟩,.int .i64 z.n,.string ⟨z.fn.toArray⟩,.slice A5 z.args.length d5,.slice A6 z.lb9.length d6] 25):=⟨_,rfl⟩
        rw[<-hw6];have hg46:w4.grownBy w6 none:=by rw[hw6];exact Zd hg5 _
        have hb6:w6.heap[w5.heap.size]?=some (.cells #[.int .u8 z.op,.string ⟨z.dst.toArray⟩,.string ⟨z.a.toArray⟩,.string ⟨z.b.toArray⟩,.int .i64 z.n,.string ⟨z.fn.toArray⟩,.slice A5 z.args.length d5,.slice A6 z.lb9.length d6] 25 (0,0)):=by rw[hw6];exact La _ _
        have y0:=(Za hb6).1 0;have HO6:=hid (HO.out.grow (Zb hg4 hg46));have Hb6:=hid ((hg46.block _ (Ze Hb4.out) (by simp)).trans Hb4.out);have hfc:=Zyd HE.out HO6.out.two.ma HO6.out.two.ok HO6.out.nd Ha.out H0.out;rw[Hgm.out] at hfc;have Hg46:=hid hg46;clear hw6 hb6 hins k0 k1 k2 hg4 hg5 hg46;go_upto_region 17 with (fail)
        clear y0;go_upto_region 18 with (go_at_call 41;refine hfc.mono ?_;rintro e w7 ⟨L,vL,rfl,hL,hoL,hg7⟩)
        obtain⟨AL,cL,rfl,hmL0,hmL,-,-⟩:=Zz hoL;have hL63:L.length<=9223372036854775807:=by unfold maxLen at hmL;omega
        have HL:=hid hL;have HoL:=hid hoL;have HO7:=hid (HO6.out.grow hg7);have Hb7:=hid ((hg7.block _ (Ze Hb6.out) (by simp)).trans Hb6.out);clear hfc hL hoL hg7 hmL hmL0;go_wp2_with fail;go_loopw [15] (fun s15 wi=>∃ k:Nat,k<=L.length/\s15=.int .i64 k/\Hid (w7.grownBy wi none)) (fun s15 _=>L.length-(intOf s15).toNat)
        case atStart=>exact⟨0,Ln _,rfl,Lb _ _⟩
        case round=>
         obtain⟨k,hk,rfl,hgi⟩:=hrel
         by_cases hkl:k<L.length
         ·skip
          as_aux_lemma=>
           obtain⟨x,hx⟩:∃ x,L[k]?=some x:=⟨_,Ld hkl⟩
           obtain⟨V,n,t,hF⟩:=fact_ok HO7.out.two.ok HO7.out.nd H0.out (by rw[X1 Ha.out];exact HL.out) hx;obtain⟨G,kc,eG,fG⟩:=Zxd HoL.out hx;injection eG with eG eG' eG''
           subst eG;clear eG' eG'';obtain⟨x1,x2⟩:=x;obtain rfl:x1=(n:Int):=hF.key;have hvar:=hF.var;have hval:=hF.val;rw[X1 Ha.out] at hvar hval;simp only at hval;rw[show a.pt.1=pf from by rw[<-Hpt.out]] at hvar;have hgk:=Lb wr none;obtain⟨c0,c1,c2,c3,c4⟩:=fG wr hgi.out;have hvo:=Yek ((HO7.out.grow hgi.out).two.mapAt HS.out) hvar;simp only at hvo;have HF:=hid hF;have HfG:=hid fG;have Hval:=hid hval;clear hF fG hvar hval hgk;go_upto_region 24 with (go_at_call 44;refine hvo.mono ?_;rintro e w8 ⟨rfl,hg8⟩)
           obtain⟨q,qu,qf,hob,hkind⟩:=Yeo ((HO7.out.grow (Zb hgi.out hg8)).two.mapAt HS.out) HF.out;obtain⟨q0,q1,q2⟩:=q;simp only at hob;have hg78:=Zb hgi.out hg8;obtain⟨-,-,-,-,d4⟩:=HfG.out w8 hg78;clear hvo c0 c1 c2 c3 c4;go_upto_region 25 with (go_at_call 45;refine hob.mono ?_;rintro e w9 ⟨rfl,hg9⟩)
           obtain⟨wA,hwA⟩:∃ wA,wA=w9.alloc (.cells #[.int .i64 q0,.int .i64 q1,.int .i64 q2] 41):=⟨_,rfl⟩
           rw[<-hwA];have hg7A:w7.grownBy wA none:=by rw[hwA];exact Zd (Zb hg78 hg9) _
           obtain⟨-,-,-,d3,-⟩:=HfG.out wA hg7A;have hmv:=Ziw (HO7.out.grow hg7A).two.ma Ha.out (n:Int);rw[Hgm.out,Hval.out] at hmv;simp only[Yf,Option.isSome_some,Option.getD_some] at hmv;obtain⟨vk,vo,vn⟩:=V;simp only at hmv hkind;have Hg7A:=hid hg7A;have Hkind:=hid hkind;clear hob d4 hwA hg9 hg8 hg78 hg7A hkind;go_upto_region 26 with (go_at_call 35;refine hmv.mono ?_;rintro e wb ⟨rfl,hgb⟩)
           obtain⟨wC,hwC⟩:∃ wC,wC=wb.alloc (.cells #[.int .u8 vk,.int .i64 vo,.int .i64 vn] 72):=⟨_,rfl⟩
           rw[<-hwC];have hg7C:w7.grownBy wC none:=by rw[hwC];exact Zd (Zb Hg7A.out hgb) _
           have hbC:wC.heap[wb.heap.size]?=some (.cells #[.int .u8 vk,.int .i64 vo,.int .i64 vn] 72 (0,0)):=by rw[hwC];exact La _ _
           have hb4:=(hg7C.block _ (Ze Hb7.out) (by simp)).trans Hb7.out;have a0:=(Za hb4).1 0;have a1:=(Za hb4).1 1;have a2:=(Za hb4).1 2;have v0:=(Za hbC).1 0;have v2:=(Za hbC).1 2;obtain⟨c0,c1,c2,c3,c4⟩:=HfG.out wC hg7C;rw[<-Hpt.out] at c0 c1 c2;simp only at c0 c1 c2;have Hg7C:=hid hg7C;clear hmv d3 hwC hgb hg7C hbC hb4;go_cut [193] from 128 to 193 (fun s193 wx=>s193=.bool false/\∃ m,wx=wC.drewN m)
           case first=>
            refine wp_region_held_drew (S:=fun W'=>W'=wC.drew) (by kernel_rfl) rfl (fun h0=>?_);have hkb:(k:Int)<(L.length:Int):=by omega
            refine tk1 0 h0 ?_;refine tk1 1 h0 ?_;simp only[Act.put,Lg,Lh,Li];refine tk1 2 h0 ?_;refine tk1 3 h0 ?_;simp only[Act.put,Lg,Lh,Li];refine tk1 4 h0 ?_;refine tk1 5 h0 ?_;simp only[Act.put,Lg,Lh,Li];refine tk1 6 h0 ?_;refine tk1 7 h0 ?_;simp only[Act.put,Lg,Lh,Li];refine tk1 8 h0 ?_;refine tk1 9 h0 ?_;simp only[Act.put,Lg,Lh,Li];refine tk1 10 h0 ?_;refine tk1 11 h0 ?_;simp only[Act.put,Lg,Lh,Li];refine tk1 12 h0 ?_;refine tk1 13 h0 ?_;simp only[Act.put,Lg,Lh,Li];refine tk1 14 h0 ?_;refine tk1 15 h0 ?_;simp only[Act.put,Lg,Lh,Li];refine tk1 16 h0 ?_;refine tk1 17 h0 ?_;simp only[Act.put,Lg,Lh,Li];refine tk1 18 h0 ?_;refine tk1 19 h0 ?_;simp only[Act.put,Lg,Lh,Li];refine tk1 20 h0 ?_;refine tk1 21 h0 ?_;simp only[Act.put,Lg,Lh,Li];refine tk1 22 h0 ?_;refine tk1 23 h0 ?_;simp only[Act.put,Lg,Lh,Li];refine tk1 24 h0 ?_;refine tk1 25 h0 ?_;simp only[Act.put,Lg,Lh,Li];refine tk1 26 h0 ?_;simp only[Act.put,Lg,Lh,Li]
            by_cases hk1:0<k
            rotate_left
            have hk0:¬ ((0:Int)<(k:Int)):=by omega
            refine tk1 27 h0 ?_;refine tk1 28 h0 ?_;simp only[Act.put,Lg,Lh,Li];refine tk0 29 h0 ?_;refine tk0 30 h0 ?_;simp only[Act.put,Lg,Lh,Li];refine tk0 31 h0 ?_;refine tk0 32 h0 ?_;simp only[Act.put,Lg,Lh,Li];refine tk0 33 h0 ?_;refine tk0 34 h0 ?_;simp only[Act.put,Lg,Lh,Li];refine tk0 35 h0 ?_;refine tk0 36 h0 ?_;simp only[Act.put,Lg,Lh,Li];refine tk0 37 h0 ?_;refine tk0 38 h0 ?_;simp only[Act.put,Lg,Lh,Li];refine tk0 39 h0 ?_;refine tk0 40 h0 ?_;simp only[Act.put,Lg,Lh,Li];refine tk1 41 h0 ?_;refine tk1 42 h0 ?_;simp only[Act.put,Lg,Lh,Li]
            rotate_left
            obtain⟨k',hkk⟩:∃ k',k=k'+1:=⟨k-1,by omega⟩
            have hk':k'<L.length:=by omega
            obtain⟨x',hx'⟩:∃ x',L[k']?=some x':=⟨_,Ld hk'⟩
            have hlt:=Yeq HL.out.2 hx' (hkk▸hx);obtain⟨G',kc',eG',fG'⟩:=Zxd HoL.out hx';injection eG' with eG1 eG2 eG3
            injection eG1 with eG1
            injection eG1 with eG1 eG4 eG5
            subst eG1;obtain⟨-,-,-,c3',-⟩:=fG' wC Hg7C.out;have hw:IntKind.i64.wrap ((k:Int)-1)=(k':Int):=by rw[IntKind.wrap_i64];omega
            have hnl:¬ ((n:Int)<=x'.1):=by simp only at hlt;omega
            have hk0:((0:Int)<(k:Int)):=by omega
            have hkb':(k':Int)<(L.length:Int):=by omega
            clear fG' eG2 eG3 eG4 eG5 hkk hx' hlt;refine tk1 27 h0 ?_;refine tk1 28 h0 ?_;simp only[Act.put,Lg,Lh,Li];refine tk1 29 h0 ?_;refine tk1 30 h0 ?_;simp only[Act.put,Lg,Lh,Li];refine tk1 31 h0 ?_;refine tk1 32 h0 ?_;simp only[Act.put,Lg,Lh,Li];refine tk1 33 h0 ?_;refine tk1 34 h0 ?_;simp only[Act.put,Lg,Lh,Li];refine tk1 35 h0 ?_;refine tk1 36 h0 ?_;simp only[Act.put,Lg,Lh,Li];refine tk1 37 h0 ?_;refine tk1 38 h0 ?_;simp only[Act.put,Lg,Lh,Li];refine tk1 39 h0 ?_;refine tk1 40 h0 ?_;simp only[Act.put,Lg,Lh,Li];refine tk1 41 h0 ?_;refine tk1 42 h0 ?_;simp only[Act.put,Lg,Lh,Li]
            all_goals
             rcases Hkind.out with ⟨h,h'⟩|⟨h,h'⟩
             have hf0:¬ ((vn:Int)<0):=by omega
             all_goals
              subst h h'
              as_aux_lemma=>
               (first|refine tk1 43 h0 ?_|refine tk0 43 h0 ?_)
               (first|refine tk1 44 h0 ?_|refine tk0 44 h0 ?_);simp only[Act.put,Lg,Lh,Li]
               (first|refine tk1 45 h0 ?_|refine tk0 45 h0 ?_)
               (first|refine tk1 46 h0 ?_|refine tk0 46 h0 ?_);simp only[Act.put,Lg,Lh,Li]
               (first|refine tk1 47 h0 ?_|refine tk0 47 h0 ?_)
               (first|refine tk1 48 h0 ?_|refine tk0 48 h0 ?_);simp only[Act.put,Lg,Lh,Li]
               (first|refine tk1 49 h0 ?_|refine tk0 49 h0 ?_)
               (first|refine tk1 50 h0 ?_|refine tk0 50 h0 ?_);simp only[Act.put,Lg,Lh,Li]
               (first|refine tk1 51 h0 ?_|refine tk0 51 h0 ?_)
               (first|refine tk1 52 h0 ?_|refine tk0 52 h0 ?_);simp only[Act.put,Lg,Lh,Li]
               (first|refine tk1 53 h0 ?_|refine tk0 53 h0 ?_)
               (first|refine tk1 54 h0 ?_|refine tk0 54 h0 ?_);simp only[Act.put,Lg,Lh,Li]
               (first|refine tk1 55 h0 ?_|refine tk0 55 h0 ?_)
               (first|refine tk1 56 h0 ?_|refine tk0 56 h0 ?_);simp only[Act.put,Lg,Lh,Li]
               (first|refine tk1 57 h0 ?_|refine tk0 57 h0 ?_)
               (first|refine tk1 58 h0 ?_|refine tk0 58 h0 ?_);simp only[Act.put,Lg,Lh,Li]
               (first|refine tk1 59 h0 ?_|refine tk0 59 h0 ?_)
               (first|refine tk1 60 h0 ?_|refine tk0 60 h0 ?_);simp only[Act.put,Lg,Lh,Li]
               (first|refine tk1 61 h0 ?_|refine tk0 61 h0 ?_)
               (first|refine tk1 62 h0 ?_|refine tk0 62 h0 ?_);simp only[Act.put,Lg,Lh,Li]
               (first|refine tk1 63 h0 ?_|refine tk0 63 h0 ?_)
               (first|refine tk1 64 h0 ?_|refine tk0 64 h0 ?_);simp only[Act.put,Lg,Lh,Li]
               (first|refine tk1 65 h0 ?_|refine tk0 65 h0 ?_);simp only[Act.put,Lg,Lh,Li]
               refine wpAnyH_done (by kernel_rfl) ?_ _;go_wp2_with fail;go_meet;exact⟨by first|rfl|simp,_,rfl⟩
           case rest=>
            obtain⟨rfl,m,hw⟩:=hcut;have Hgx:=hid (show w7.grownBy wc none from hw▸Zg Hg7C.out m);clear hw;clear a0 a1 a2 v0 v2 c0 c1 c2 c3 c4;go_wp2_with fail;go_roundw
            case rel=>exact⟨k+1,by omega,by go_num,Hgx.out⟩
            case measure=>simp[intOf];omega
         ·obtain rfl:k=L.length:=by omega
          as_aux_lemma=>
           have hO:=HO7.out.grow hgi.out;have hmv:=TwoI.move HE.out hO.two ci;rw[Hgm.out] at hmv;obtain⟨d1,d2⟩:=Yep HN.out.1 HN.out.2 hO.two.ok hO.did (decide (ci % 2=1));have hnd:=hO.nd.move (p:=p) (decide (ci % 2=1));have hC0:=HrC.out wr hO.two.grown;have hib:(i:Int)<(cs.length:Int):=by omega
           obtain⟨s',hs'⟩:∃ s',s'=s.move p (decide (ci % 2=1)):=⟨_,rfl⟩
           rw[<-hs'] at hmv d1 d2 hnd;have HX:=hid (And.intro hnd (And.intro d1 (d2 H0.out)));clear hO hs' hnd d1 d2;go_upto_region 29 with (go_at_call 36;refine hmv.mono ?_;rintro e wD ⟨rfl,g2,hm2,hs2,ht2⟩;have HM:=hid (And.intro hm2 ht2);clear hm2 hs2 ht2)
           have HD:=hid (PlI.mk HM.out.2 HX.out.1 HX.out.2.1);have Hg2:=hid (HM.out.1);have hen:=Jb HD.out.two.ma;rw[Hg2.out] at hen;clear hmv hC0 hib
           cases hd:s'.did with
           |false=>
            rw[hd] at hen;simp only[Bool.false_eq_true,if_false,Zhm] at hen;clear hd;go_wp2_with (go_at_call 40;refine hen.mono ?_;rintro e wF ⟨rfl,hgF⟩;have HgF:=hid hgF;clear hgF);go_roundw
            case rel=>exact⟨i+1,by omega,by go_num,hid ⟨g2,s',Hg2.out,HD.out.grow (Zd HgF.out _)⟩⟩
            case measure=>simp[intOf];omega
           |true=>
            as_aux_lemma=>
             obtain⟨f2,y2,z,fq,hf2,hy2,hz2,hop,hfq,hal,hat2⟩:=HX.out.2.2 hd;have h02:=HX.out.2.1 hd;rw[hd] at hen;simp only[if_true,Zhm] at hen;clear hd;obtain⟨⟨⟨e0,e1,e2⟩,e3⟩,hee⟩:∃ q,q=s'.ent:=⟨_,rfl⟩
             rw[<-hee] at hen hf2 hy2 hz2 hfq hat2;clear hee;simp only at hen hf2 hy2 hz2 hfq hat2;go_upto_region 31 with (go_at_call 40;refine hen.mono ?_;rintro e wF ⟨rfl,hgF⟩;have HgF:=hid hgF;clear hgF)
             obtain⟨wG,hwG⟩:∃ wG,wG=wF.alloc (.cells #[.int .i64 e0,.int .i64 e1,.int .i64 e2,.int .i64 e3] 81):=⟨_,rfl⟩
             rw[<-hwG];obtain⟨eb,heb⟩:∃ eb,eb=wF.heap.size:=⟨_,rfl⟩
             rw[<-heb];have hgG:wD.grownBy wG none:=by rw[hwG];exact Zd HgF.out _
             have hbG:wG.heap[eb]?=some (.cells #[.int .i64 e0,.int .i64 e1,.int .i64 e2,.int .i64 e3] 81 (0,0)):=by rw[hwG,heb];exact La _ _
             have t0:wG.cell? ⟨eb,0,none⟩=some (.int .i64 e0):=(Za hbG).1 0;have t1:wG.cell? ⟨eb,1,none⟩=some (.int .i64 e1):=(Za hbG).1 1;have t2:wG.cell? ⟨eb,2,none⟩=some (.int .i64 e2):=(Za hbG).1 2;have hins:=Zay ((HD.out.grow hgG).two.mapAt HS.out) hf2 hy2 hz2;simp only[insV] at hins;have Hgx:=hid hgG;have HbG:=hid hbG;have HY:=hid (And.intro hop (And.intro hfq (And.intro hal (And.intro hat2 h02))));have hl2:=(Le hfq).1;clear hwG heb hgG hbG hen hf2 hy2 hz2 hop hfq hal hat2 h02;go_upto_region 32 with (go_at_call 26;refine hins.mono ?_;rintro e w5 ⟨A5,d5,A6,d6,rfl,-,hg5⟩;have Hg5:=hid hg5;clear hg5)
             obtain⟨w6,hw6⟩:∃ w6,w6=w5.alloc (.cells #[.int .u8 z.op,.string ⟨z.dst.toArray⟩,.string ⟨z.a.toArray⟩,.string ⟨z.b.toArray⟩,.int .i64 z.n,.string ⟨z.fn.toArray⟩,.slice A5 z.args.length d5,.slice A6 z.lb9.length d6] 25):=⟨_,rfl⟩
             rw[<-hw6];obtain⟨xb,hxb⟩:∃ xb,xb=w5.heap.size:=⟨_,rfl⟩
             rw[<-hxb];have hg6:wG.grownBy w6 none:=by rw[hw6];exact Zd Hg5.out _
             have hb6:w6.heap[xb]?=some (.cells #[.int .u8 z.op,.string ⟨z.dst.toArray⟩,.string ⟨z.a.toArray⟩,.string ⟨z.b.toArray⟩,.int .i64 z.n,.string ⟨z.fn.toArray⟩,.slice A5 z.args.length d5,.slice A6 z.lb9.length d6] 25 (0,0)):=by rw[hw6,hxb];exact La _ _
             have hD6:=HD.out.grow (Zb Hgx.out hg6);have hat:=Zxq hD6.two.ma hD6.two.ok;rw[Hg2.out,decide_eq_true HY.out.2.2.2.2,HY.out.2.2.2.1] at hat;simp only[Int.ofNat_zero,Int.natCast_zero] at hat;have Hb6:=hid hb6;have Hg6:=hid hg6;clear hw6 hxb hg6 hb6 hD6 hins t0 t1 t2;go_upto_region 33 with (go_at_call 32;refine hat.mono ?_;rintro e w7 ⟨rfl,hg7⟩;have Hg7:=hid hg7;clear hg7)
             obtain⟨w8,hw8⟩:∃ w8,w8=w7.alloc (.cells #[.int .i64 e3,.int .i64 0,.int .i64 0] 41):=⟨_,rfl⟩
             rw[<-hw8];obtain⟨ub,hub⟩:∃ ub,ub=w7.heap.size:=⟨_,rfl⟩
             rw[<-hub];have hg8:w6.grownBy w8 none:=by rw[hw8];exact Zd Hg7.out _
             have hb8:w8.heap[ub]?=some (.cells #[.int .i64 e3,.int .i64 0,.int .i64 0] 41 (0,0)):=by rw[hw8,hub];exact La _ _
             have HSc:=hid (show ∀ W',w8.grownBy W' none->W'.cell? ⟨xb,0,none⟩=some (.int .u8 z.op)/\W'.cell? ⟨xb,6,none⟩=some (.slice A5 z.args.length d5)/\W'.cell? ⟨ub,0,none⟩=some (.int .i64 e3)/\W'.cell? ⟨ub,1,none⟩=some (.int .i64 0)/\W'.cell? ⟨ub,2,none⟩=some (.int .i64 0)/\W'.cell? ⟨eb,3,none⟩=some (.int .i64 e3) from fun W' hg=>by
              have h1:=((Zb hg8 hg).block _ (Ze Hb6.out) (by simp)).trans Hb6.out
              have h2:=(hg.block _ (Ze hb8) (by simp)).trans hb8
              have h3:=((Zb Hg6.out (Zb hg8 hg)).block _ (Ze HbG.out) (by simp)).trans HbG.out
              exact⟨(Za h1).1 0,(Za h1).1 6,(Za h2).1 0,(Za h2).1 1,(Za h2).1 2,(Za h3).1 3⟩)
             have HD8:=hid (HD.out.grow (Zb Hgx.out (Zb Hg6.out hg8)));have Hpa:=hid (fun W' (hg:w8.grownBy W' none)=>Zmh ((HD8.out.grow hg).two.mapAt HS.out) HY.out.2.1);simp only[List.length_map] at Hpa;have hal:=HY.out.2.2.1;have hop:(z.op:Int)=10\/(z.op:Int)=11:=by have:=HY.out.1;omega
             obtain⟨o,ho⟩:∃ o:Int,o=z.op:=⟨_,rfl⟩
             rw[<-ho] at HSc hop;clear ho hw8 hub hg8 hb8 hat
             as_aux_lemma=>
              rcases hop with rfl|rfl
              refine wp_region_held_drew (S:=fun W'=>W'.cell? ⟨xb,0,none⟩=some (.int .u8 10)/\W'.cell? ⟨xb,6,none⟩=some (.slice A5 z.args.length d5)/\W'.cell? ⟨ub,0,none⟩=some (.int .i64 e3)/\W'.cell? ⟨ub,1,none⟩=some (.int .i64 0)/\W'.cell? ⟨ub,2,none⟩=some (.int .i64 0)/\W'.cell? ⟨eb,3,none⟩=some (.int .i64 e3)) (by kernel_rfl) (HSc.out _ (Zf (Lb _ _))) (fun h0=>?_);refine tk1 0 h0 ?_;refine tk1 1 h0 ?_;simp only[Act.put,Lg,Lh,Li];refine tk1 2 h0 ?_;refine tk1 3 h0 ?_;simp only[Act.put,Lg,Lh,Li];refine tk1 4 h0 ?_;refine tk1 5 h0 ?_;simp only[Act.put,Lg,Lh,Li];refine tk1 6 h0 ?_;refine tk0 7 h0 ?_;simp only[Act.put,Lg,Lh,Li];refine tk0 8 h0 ?_;refine tk0 9 h0 ?_;simp only[Act.put,Lg,Lh,Li];refine tk1 10 h0 ?_;refine tk1 11 h0 ?_;simp only[Act.put,Lg,Lh,Li];refine tk1 12 h0 ?_;refine tk1 13 h0 ?_;simp only[Act.put,Lg,Lh,Li];refine tk1 14 h0 ?_;refine tk1 15 h0 ?_;simp only[Act.put,Lg,Lh,Li];refine tk1 16 h0 ?_;refine tk1 17 h0 ?_;simp only[Act.put,Lg,Lh,Li];refine tk1 18 h0 ?_;refine tk1 19 h0 ?_;simp only[Act.put,Lg,Lh,Li];refine tk1 20 h0 ?_;refine tk1 21 h0 ?_;simp only[Act.put,Lg,Lh,Li];refine tk1 22 h0 ?_;refine tk1 23 h0 ?_;simp only[Act.put,Lg,Lh,Li];refine tk1 24 h0 ?_;refine tk1 25 h0 ?_;simp only[Act.put,Lg,Lh,Li];refine tk1 26 h0 ?_;refine tk1 27 h0 ?_;simp only[Act.put,Lg,Lh,Li];refine tk1 28 h0 ?_;refine tk1 29 h0 ?_;simp only[Act.put,Lg,Lh,Li]
              rotate_left
              refine wp_region_held_drew (S:=fun W'=>W'.cell? ⟨xb,0,none⟩=some (.int .u8 11)/\W'.cell? ⟨xb,6,none⟩=some (.slice A5 z.args.length d5)/\W'.cell? ⟨ub,0,none⟩=some (.int .i64 e3)/\W'.cell? ⟨ub,1,none⟩=some (.int .i64 0)/\W'.cell? ⟨ub,2,none⟩=some (.int .i64 0)/\W'.cell? ⟨eb,3,none⟩=some (.int .i64 e3)) (by kernel_rfl) (HSc.out _ (Zf (Lb _ _))) (fun h0=>?_);refine tk1 0 h0 ?_;refine tk1 1 h0 ?_;simp only[Act.put,Lg,Lh,Li];refine tk1 2 h0 ?_;refine tk1 3 h0 ?_;simp only[Act.put,Lg,Lh,Li];refine tk1 4 h0 ?_;refine tk1 5 h0 ?_;simp only[Act.put,Lg,Lh,Li];refine tk1 6 h0 ?_;refine tk1 7 h0 ?_;simp only[Act.put,Lg,Lh,Li];refine tk1 8 h0 ?_;refine tk1 9 h0 ?_;simp only[Act.put,Lg,Lh,Li];refine tk1 10 h0 ?_;refine tk1 11 h0 ?_;simp only[Act.put,Lg,Lh,Li];refine tk1 12 h0 ?_;refine tk1 13 h0 ?_;simp only[Act.put,Lg,Lh,Li];refine tk1 14 h0 ?_;refine tk1 15 h0 ?_;simp only[Act.put,Lg,Lh,Li];refine tk1 16 h0 ?_;refine tk1 17 h0 ?_;simp only[Act.put,Lg,Lh,Li];refine tk1 18 h0 ?_;refine tk1 19 h0 ?_;simp only[Act.put,Lg,Lh,Li];refine tk1 20 h0 ?_;refine tk1 21 h0 ?_;simp only[Act.put,Lg,Lh,Li];refine tk1 22 h0 ?_;refine tk1 23 h0 ?_;simp only[Act.put,Lg,Lh,Li];refine tk1 24 h0 ?_;refine tk1 25 h0 ?_;simp only[Act.put,Lg,Lh,Li];refine tk1 26 h0 ?_;refine tk1 27 h0 ?_;simp only[Act.put,Lg,Lh,Li];refine tk1 28 h0 ?_;refine tk1 29 h0 ?_;simp only[Act.put,Lg,Lh,Li]
              all_goals
               refine tkc 30 (by kernel_rfl) fun K hK=>?_
               (go_simp;go_at_call 46;refine (Hpa.out _ (Zf (Lb _ _))).mono ?_;rintro e w9 ⟨v2,rfl,ho2,hg9⟩;obtain⟨A9,c9,rfl,-,-,-,-⟩:=Zz ho2;have hg:=Zb (Zf (Lb w8 none)) hg9;clear hg9 ho2)
               have h2:=HSc.out _ hg;refine hK.out _ _ h2 fun _=>?_
               try simp only[Act.put,Lg,Lh,Li]
               refine tk1 31 h2 ?_;refine tk1 32 h2 ?_;refine tk1 33 h2 ?_;simp only[Act.put,Lg,Lh,Li];refine wpAnyH_done (by kernel_rfl) ?_ _;have Hgz:=hid (HD8.out.grow hg);clear hg HSc Hpa;go_wp2_with fail;go_roundw
               case rel=>exact⟨i+1,by omega,by go_num,hid ⟨g2,s',Hg2.out,Hgz.out⟩⟩
               case measure=>simp[intOf];omega
      ·skip
       as_aux_lemma=>
        have Hfn:=hid (fun (W':World) (hg:wr.grownBy W' none)=>Zyl (HO.out.grow hg).two.ma h0);rw[Hgm.out] at Hfn;rw[decide_eq_false h0] at hat;obtain⟨⟨pf,pb,pi⟩,hpt⟩:∃ q,q=atP s:=⟨_,rfl⟩
        rw[<-hpt] at hat;simp only at hat;clear hpt;go_upto_region 17 with (go_at_call 32;refine hat.mono ?_;rintro e w3 ⟨rfl,hg3⟩;have Hg3:=hid hg3;clear hg3)
        have Hg4:=hid (Zd Hg3.out (.cells #[.int .i64 pf,.int .i64 pb,.int .i64 pi] 41));obtain⟨w4,hw4⟩:∃ w4,w4=w3.alloc (.cells #[.int .i64 pf,.int .i64 pb,.int .i64 pi] 41):=⟨_,rfl⟩
        rw[<-hw4] at Hg4 ⊢;have hfn:=Hfn.out w4 Hg4.out;clear hat hw4;go_upto_region 20 with (go_at_call 41;refine hfn.mono ?_;rintro e w5 ⟨rfl,hg5⟩;have Hg5:=hid hg5;clear hg5)
        have hO:=HO.out.grow (Zb Hg4.out Hg5.out);have hmv:=TwoI.move HE.out hO.two ci;rw[Hgm.out] at hmv;have hs':s.move p (decide (ci % 2=1))=s:=by unfold GM.move;rw[if_neg h0]
        rw[hs'] at hmv;have hdf:s.did=false:=by rw[Bool.eq_false_iff];intro e;exact h0 (hO.did e)
        have hC0:=HrC.out w5 hO.two.grown;have hib:(i:Int)<(cs.length:Int):=by omega
        have HXX:=hid (And.intro hO.nd hO.did);clear hfn hO hs';go_wp2_with fail;go_loopw [15] (fun s15 wi=>s15=.int .i64 0/\wi=w5) (fun _ _=>0)
        case atStart=>exact⟨rfl,rfl⟩
        case round=>
         obtain⟨rfl,rfl⟩:=hrel;go_upto_region 29 with (go_at_call 36;refine hmv.mono ?_;rintro e wD ⟨rfl,g2,hm2,hs2,ht2⟩;have HM:=hid (And.intro hm2 ht2);clear hm2 hs2 ht2)
         have HD:=hid (PlI.mk HM.out.2 HXX.out.1 HXX.out.2);have Hg2:=hid (HM.out.1);have hen:=Jb HD.out.two.ma;rw[Hg2.out,hdf] at hen;simp only[Bool.false_eq_true,if_false,Zhm] at hen;clear hmv hC0 hib hdf;go_wp2_with (go_at_call 40;refine hen.mono ?_;rintro e wF ⟨rfl,hgF⟩;have HgF:=hid hgF;clear hgF);go_roundw
         case rel=>exact⟨i+1,by omega,by go_num,hid ⟨g2,s,Hg2.out,HD.out.grow (Zd HgF.out _)⟩⟩
         case measure=>simp[intOf];omega
     ·obtain rfl:i=cs.length:=by omega
      have Hg:=hid hO.two.grown;clear hO;go_wp2_with (go_at_call 30;refine (Xi _).mono ?_;rintro e w4 ⟨rfl,hg4⟩);go_ret;exact⟨by first|rfl|simp,Zb Hg.out hg4⟩
   ·have hnew:=Znc p _ w1 B (HH.out.le _ hg1) (HH.out.prog _ hg1) hz;go_upto_region 4 with (go_at_call 31;refine hnew.mono ?_;rintro e w2 ⟨rfl,hg2⟩)
    have hc2:=HH.out.cell w2 (Zb hg1 hg2);have hnew2:=Zkd p _ w2 B (HH.out.le _ (Zb hg1 hg2)) (HH.out.prog _ (Zb hg1 hg2)) hz;clear hnew hc1;go_upto_region 5 with (go_at_call 22;refine hnew2.mono ?_;rintro e w3 ⟨rfl,hg3⟩)
    clear hnew2 hc2;go_wp2_with (go_at_call 30;refine (Xi _).mono ?_;rintro e w4 ⟨rfl,hg4⟩);go_ret;exact⟨rfl,Zb Hg1.out (Zb hg2 (Zb hg3 hg4))⟩

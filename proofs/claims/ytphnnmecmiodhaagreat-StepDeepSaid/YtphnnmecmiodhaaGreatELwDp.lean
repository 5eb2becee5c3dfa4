/- The contract of gnomonlaw14.StepDeep: it answers true. Condition: the program and the choices lie in memory. -/
import Derived.Test.YtphnnmecmiodhaaGreatEKs
set_option maxHeartbeats 8000000
set_option maxRecDepth 100000
set_option linter.unusedVariables false
set_option linter.unusedSimpArgs false
set_option linter.unusedSectionVars false
namespace Go.Proofs.YtphnnmecmiodhaaGreat
open Lib(hid)
open Go.RowKit Go.Shelf
def fnL (s:GM):List Nat:=s.acts.map fun a=>a.pt.1
structure OpenI (p:GProg) (w0 wS:World) (loS:Nat) (wB:Bs) (ms:Nat) (vp:Value) (W:World) (g:SAd) (s:GM) (v:Value):Prop where
 two:TwoI p w0 wS loS wB ms vp W g s
 row:W.ownsRow wS.heap.size 3 1 v (fnL s).length ((fnL s).map Z4)
 ne:∀ n,v.ownBlock=some n→¬ SQ g n
variable {p:GProg} {w0 wS:World} {loS lo ms mS:Nat} {wB:Bs} {vp:Value} {W W':World} {g:SAd} {s:GM} {v:Value}
theorem OpenI.grow (h:OpenI p w0 wS loS wB ms vp W g s v) (hg:W.grownBy W' none):OpenI p w0 wS loS wB ms vp W' g s v:=
 ⟨h.two.grow hg,(Chg.grown (Q:=fun _=>False) hg (fun r e=>by cases e)).owns h.row (fun _ _ e=>e),h.ne⟩
theorem OpenI.row_kept (h:OpenI p w0 wS loS wB ms vp W g s v) {g':SAd} (hs:Stp W g W' g'):W'.ownsRow wS.heap.size 3 1 v (fnL s).length ((fnL s).map Z4)∧∀ n,v.ownBlock=some n→¬ SQ g' n:=by
 refine⟨hs.chg.owns h.row (fun n e=>h.ne n e),fun n e q=>?_⟩
 rcases hs.new n q with q|q
 ·exact h.ne n e q
 ·have:=(h.row.lt n e).2;omega
theorem fnL_top {l:List GAct} {a:GAct} (h:s.acts=l++[a]):fnL s=(l.map fun b=>b.pt.1)++[a.pt.1]:=by simp[fnL,h]
theorem Zuu {p:GProg} (hN:NOk p):∃ (f:GFun) (y:GBlk) (x:GIns),p[0]?=some f∧f.blocks[0]?=some y∧y.code[0]?=some x:=by
 have h1:=hN.funcs.1;have hf:p[0]?=some p[0]:=List.getElem?_eq_getElem h1;have h2:=(hN.blocks hf).1;have hy:p[0].blocks[0]?=some p[0].blocks[0]:=List.getElem?_eq_getElem h2;have h3:=List.length_pos_iff.2 (hN.ends hf hy).1;exact⟨_,_,_,hf,hy,List.getElem?_eq_getElem h3⟩
theorem Zud (p:GProg) (vp vc:Value) (cs:List Int) (B:Nat) (w:World) (hB:B≤w.heap.size) (h:ProgAt w B vp p) (hcs:SlAt intR 1 w B vc cs):
  Calls Tryz.prog 6 #[.agg #[vp],vc] w fun e w'=>e=.returned (.bool true)∧w.grownBy w' none:=by
 obtain⟨A,c,rfl,m1,m2,m3,-⟩:=h.open_;obtain⟨AC,cc,rfl,o1,o2,o3,-⟩:=hcs.open_;have hH:=Zqk hB h;obtain⟨W,hW⟩:∃ W:World,W=w.alloc (.cells #[.slice A p.length c] 47):=⟨_,rfl⟩
 rw[←hW] at hH;have hgr:=Zdt p _ W B (hH.le W (World.grownBy.refl _ _)) (hH.prog W (World.grownBy.refl _ _));have hc:=hH.cell W (World.grownBy.refl _ _);have HH:=hid hH;have HC:=hid hcs;have HB:=hid hB;clear h hcs hH;go_enter Tryz.func6,Tryz.ntmps6;go_upto_region 1 with (fail)
 rw[←hW];clear hW
 repeat go_step
 refine hgr.mono ?_;rintro e w1 ⟨bg,rfl,hg1⟩;have hc1:=HH.out.cell w1 hg1;have Hg1:=hid (Zb HH.out.grown hg1);clear hc hgr
 cases bg with
 |true=>
  go_wp2_with (go_at_call 30;refine (Xi _).mono ?_;rintro e w2 ⟨rfl,hg2⟩);go_ret;exact⟨rfl,Zb Hg1.out hg2⟩
 |false=>
  by_cases h200:(400:Int)<(cs.length:Int)
  ·go_wp2_with (go_at_call 30;refine (Xi _).mono ?_;rintro e w2 ⟨rfl,hg2⟩);go_ret;exact⟨rfl,Zb Hg1.out hg2⟩
  ·by_cases hz:(Y5 p).1=0
   ·have hnew:=Zgx p _ w1 B (HH.out.le _ hg1) (HH.out.prog _ hg1) hz;go_upto_region 4 with (go_at_call 31;refine hnew.mono ?_;rintro e w2 ⟨wB,lo,ms,vq,g,rfl,hE,hM,l1,l2,l3,hg2⟩)
    have hc2:=HH.out.cell w2 (Zb hg1 hg2);have hnew2:=Zkc p _ w2 B (HH.out.le _ (Zb hg1 hg2)) (HH.out.prog _ (Zb hg1 hg2)) (Zjs (Jt hz)) hz;clear hnew hc1;go_upto_region 5 with (go_at_call 22;refine hnew2.mono ?_;rintro e wS ⟨mS,rfl,hS,hg3⟩)
    have hI:TwoI p w wS w2.heap.size wB ms vq wS g (gm0 p):=TwoI.start Hg1.out hM (Zoi (Jt hz)) l2 l3 hg2 hg3;have HE:=hid hE;have HS:=hid hS;have HN:=hid (And.intro (Jt hz) (Zph hz));have hfn:=J8 hS mainS;have HI:=hid hI;clear hnew2 hM hS hE hI hc2 l1 l2 l3 hg1 hg2 hg3 hz;obtain⟨fm,hfm⟩:∃ fm,fm=ixK (Zy p p.length) mainS:=⟨_,rfl⟩
    rw[←hfm] at hfn;have Hfm:=hid hfm;clear hfm;go_upto_region 10 with (go_at_call 37;refine hfn.mono ?_;rintro e w3 ⟨rfl,hg3⟩)
    go_upto_region 11 with (fail)
    obtain⟨w4,hw4⟩:∃ w4,w4=w3.alloc (.cells #[.int .i64 fm] 3):=⟨_,rfl⟩
    rw[←hw4];have hg34:w3.grownBy w4 none:=by rw[hw4];exact World.grownBy_alloc _ _ _
    have hb4:w4.heap[w3.heap.size]?=some (.cells #[.int .i64 fm] 3 (0,0)):=by rw[hw4];exact World.alloc_heap_new _ _
    have hO:OpenI p w wS w2.heap.size wB ms vq w4 g (gm0 p) (.slice (some ⟨w3.heap.size,0,none⟩) 1 1):=by
     refine⟨HI.out.grow (Zb hg3 hg34),?_,fun n e q=>?_⟩
     ·have:fnL (gm0 p)=[fm]:=by rw[Hfm.out];rfl
      rw[this];exact Zmn hb4 hg3.size
     ·injection e with e
      have:=HI.out.ma.lt q;have:=hg3.size;simp only at e;omega
    have HO:=hid hO;clear hO hw4 hg34 hb4 hg3 HI hfn Hfm;go_wp2_with fail;go_loopw [11,12] (fun s11 s12 wr=>∃ i:Nat,i≤cs.length∧s12=.int .i64 i∧∃ A n c,s11=.slice A n c∧Hid (∃ g' s,g'.m=g.m∧n=(fnL s).length∧OpenI p w wS w2.heap.size wB ms vq wr g' s (.slice A n c))) (fun _ s12 _=>cs.length-(intOf s12).toNat)
    case atStart=>exact⟨0,Nat.zero_le _,rfl,_,_,_,rfl,g,_,rfl,rfl,HO.out⟩
    case round=>
     obtain⟨i,hi,rfl,A1,n,c1,rfl,hh⟩:=hrel;obtain⟨g',s,hgm,hn,hO⟩:=hh.out;clear hh HO
     by_cases hil:i<cs.length
     ·obtain⟨ci,bC,oC,hci,hAC,hbC,hrC,-⟩:=HC.out.at_ hil;have hrC':∀ W',w.grownBy W' none→W'.cell? ⟨bC,oC+i,none⟩=some (.int .i64 ci):=fun W' hg=>by
       rw[Nat.mul_one] at hrC;exact (World.cell?_of_block (hg.block bC (Nat.lt_of_lt_of_le hbC HB.out) (by simp))).trans hrC
      have HrC:=hid hrC'
      cases hAC
      have hgW:=hid hO.two.grown;clear hrC hrC' hbC hci
      by_cases h0:s.stop=0
      ·obtain⟨l,a,ha⟩:=hO.two.acts h0;obtain⟨f,y,hf,hy,hx⟩:=hO.two.ok.at_ins ha;have hat:=Zql hO.two.ma ha h0;rw[hgm] at hat;obtain⟨z,hzd⟩:∃ z,z=Yp p a.pt:=⟨_,rfl⟩
       rw[←hzd] at hx;have hfl:=fnL_top ha;have hnl:n=l.length+1:=by rw[hn,hfl];simp
       subst hnl;have hd64:l.length+1≤64:=by
        have:=hO.two.ok.depth;rw[ha] at this;simpa using this
       have hmv:=(hO.two.ok.move HN.out.1 HN.out.2 h0 (decide (ci % 2=1)) ha).2;unfold MvOk at hmv;rw[←hzd] at hmv;have hrow:=hO.row;obtain⟨A',c',e,hca,-,k3,k4⟩:=Zz hrow;injection e with e1 e2 e3
       subst e1 e3;have hcap:l.length≤c1:=by omega
       clear e2 hca
       cases A1 with
       |none=>have:=(k3 rfl).1;rw[hfl] at this;simp at this
       |some b1=>
        obtain⟨e2,-,-⟩:=k4 b1 rfl;obtain⟨G,hG⟩:∃ G,G=b1.block:=⟨_,rfl⟩
        rw[←hG] at e2;subst e2;have hrc0:wr.cell? ⟨G,l.length,none⟩=some (.int .i64 a.pt.1):=by
         have h1:=hrow;rw[show (fnL s).length=l.length+1 from hn.symm] at h1;obtain⟨-,-,-,-,h6⟩:=Xm h1;exact h6 l.length _ (by rw[hfl];simp[Z4])
        have HO1:=hid hO;have Ha:=hid ha;have Hmv:=hid hmv;have Hfl:=hid hfl;have Hn:=hid hn;have Hz:=hid hzd;have H0:=hid h0;clear hO ha hzd h0 hmv hfl hn hrow k3 k4 hG;obtain⟨⟨pf,pb,pi⟩,hpt⟩:∃ q,q=a.pt:=⟨_,rfl⟩
        rw[←hpt] at hf hy hx hat hrc0;simp only at hf hy hx hat hrc0;have Hpt:=hid hpt;clear hpt;go_upto_region 15 with (go_at_call 32;refine hat.mono ?_;rintro e w3 ⟨rfl,hg3⟩)
        obtain⟨w4,hw4⟩:∃ w4,w4=w3.alloc (.cells #[.int .i64 pf,.int .i64 pb,.int .i64 pi] 41):=⟨_,rfl⟩
        rw[←hw4];have hg4:wr.grownBy w4 none:=by rw[hw4];exact Zd hg3 _
        have hb4:w4.heap[w3.heap.size]?=some (.cells #[.int .i64 pf,.int .i64 pb,.int .i64 pi] 41 (0,0)):=by rw[hw4];exact World.alloc_heap_new _ _
        have Hg3:=hid hg3;have Hg4:=hid hg4;have Hb4:=hid hb4
        have Hdp:=hid (fun n=>by
                           have:=Q4 (HO1.out.grow (Zg hg4 n)).two.ma
                           rw[hgm,Ha.out,List.length_append,List.length_singleton] at this
                           exact this)
        have Hst:=hid (fun n=>by
                           have:=Us (HO1.out.grow (Zg hg4 n)).two.ma
                           rw[hgm,H0.out] at this
                           exact this)
        have hin:=Zp hg4 hrc0;have k0:=(Za hb4).1 0;have hw1:IntKind.i64.wrap ((l.length:Int)+1-1)=(l.length:Int):=by rw[IntKind.wrap_i64];omega
        have hz1:((l.length:Int)+1 == 0)=false:=by rw[beq_eq_false_iff_ne];omega
        have hdd:l.length+1≤9223372036854775807:=by omega
        have hG1:G<w4.heap.size:=World.block_lt_of_cell? w4 ⟨G,l.length,none⟩ hin;have hz2:¬ (64<(l.length:Int)+1):=by omega
        clear hw4 hb4 hat hg3 hg4 hrc0;go_quiet ((first|(go_at_call 38;exact (Hdp.out _).mono fun e w' h=>⟨h.1,_,h.2.symm⟩)|(go_at_call 39;exact (Hst.out _).mono fun e w' h=>⟨h.1,_,h.2.symm⟩)));obtain⟨w5,hw5⟩:∃ w,w=w4.drewN nq:=⟨_,rfl⟩
        rw[←hw5];have hg5:wr.grownBy w5 none:=hw5▸Zg Hg4.out nq;have hb5:w5.heap[w3.heap.size]?=some (.cells #[.int .i64 pf,.int .i64 pb,.int .i64 pi] 41 (0,0)):=by rw[hw5];exact Hb4.out
        have hins:=Zay ((HO1.out.grow hg5).two.mapAt HS.out) hf hy hx;simp only[insV] at hins;have Hb5:=hid hb5;have hk0:=(Za hb5).1 0;have hk1:=(Za hb5).1 1;have hk2:=(Za hb5).1 2;clear hw5 hb5 Hdp Hst hin k0 hw1 Hg4 Hb4;go_upto_region 18 with (go_at_call 26;refine hins.mono ?_;rintro e w6 ⟨A5,d5,A6,d6,rfl,-,hg6⟩)
        obtain⟨w7,hw7⟩:∃ w7,w7=w6.alloc (.cells #[.int .u8 z.op,.string ⟨z.dst.toArray⟩,.string ⟨z.a.toArray⟩,.string ⟨z.b.toArray⟩,.int .i64 z.n,.string ⟨z.fn.toArray⟩,.slice A5 z.args.length d5,.slice A6 z.labels.length d6] 25):=⟨_,rfl⟩
        rw[←hw7];have hg67:w6.grownBy w7 none:=by rw[hw7];exact World.grownBy_alloc _ _ _
        have hb7:w7.heap[w6.heap.size]?=some (.cells #[.int .u8 z.op,.string ⟨z.dst.toArray⟩,.string ⟨z.a.toArray⟩,.string ⟨z.b.toArray⟩,.int .i64 z.n,.string ⟨z.fn.toArray⟩,.slice A5 z.args.length d5,.slice A6 z.labels.length d6] 25 (0,0)):=by rw[hw7];exact World.alloc_heap_new _ _
        have Hg57:=hid (Zb hg6 hg67);have Hg7:=hid (Zb hg5 (Zb hg6 hg67));have Hsz:=hid (And.intro hg5.size hg6.size);have hmo:=TwoI.move HE.out (HO1.out.two.grow Hg7.out) ci;rw[hgm] at hmo;have hrc:=HrC.out w7 (Zb hgW.out Hg7.out);have Hb7:=hid hb7;obtain⟨S,hS'⟩:∃ S,S=s.move p (decide (ci % 2=1)):=⟨_,rfl⟩
        rw[←hS'] at hmo;have Hmv':=Hmv.out;rw[←hS'] at Hmv';have HMv:=hid Hmv';clear Hmv Hmv' hS' hw7 hg67 hb7 hg5 hg6 hins hk0 hk1 hk2 HrC;go_upto_region 19 with (go_at_call 36;refine hmo.mono ?_;rintro e w8 ⟨rfl,g8,hm8,hs8,hI8⟩)
        have hlt8:=fun n (q:SQ g' n)=>HO1.out.two.ma.lt q
        have hrow8:=(HO1.out.grow Hg7.out).row_kept hs8;have hb58:=hs8.chg.at_ ((Hg57.out.block _ (Ze Hb5.out) (by simp)).trans Hb5.out) (fun q=>by have:=hlt8 _ q;have:=Hg3.out.size;omega);have hb78:=hs8.chg.at_ Hb7.out (fun q=>by have:=hlt8 _ q;have:=Hsz.out;omega);have he:=Jb hI8.ma;rw[hm8] at he;have HI8:=hid hI8;have HR8:=hid hrow8;have HB8:=hid (And.intro hb58 hb78);clear hmo hs8 hI8 hlt8 hrow8 hb58 hb78;obtain⟨h58,h78⟩:=HB8.out
        rcases HMv.out with ⟨hd,hop,he1,-,hac,-⟩|⟨hd,hop,hac⟩|⟨hd,hop,hac,hst,-⟩
        ·have hE:(if S.did=true then S.ent else ((0,0,0),0))=(a.pt,S.ent.2):=by rw[hd,if_pos rfl,←he1]
         obtain⟨q,hq⟩:∃ q,q=S.ent.2:=⟨_,rfl⟩
         rw[hE,hd,←Hpt.out,←hq] at he;simp only[Zhm] at he
         have HfS:=hid (show fnL S=fnL s++[q] by
                            rw[Hfl.out,hq]
                            show S.acts.map _=_
                            rw[hac]
                            simp)
         have Hop:=hid hop;clear hE hd he1 hac hq hop;go_upto_region 20 with (go_at_call 40;refine he.mono ?_;rintro e w9 ⟨rfl,hg9⟩)
         obtain⟨w10,hw10⟩:∃ w10,w10=w9.alloc (.cells #[.int .i64 pf,.int .i64 pb,.int .i64 pi,.int .i64 q] 81):=⟨_,rfl⟩
         rw[←hw10];have hg910:w9.grownBy w10 none:=by rw[hw10];exact World.grownBy_alloc _ _ _
         have hb10:w10.heap[w9.heap.size]?=some (.cells #[.int .i64 pf,.int .i64 pb,.int .i64 pi,.int .i64 q] 81 (0,0)):=by rw[hw10];exact World.alloc_heap_new _ _
         have hg810:=Zb hg9 hg910;have y5:=(hg810.block _ (Ze h58) (by simp)).trans h58;have y7:=(hg810.block _ (Ze h78) (by simp)).trans h78;have a0:=(Za y5).1 0;have a1:=(Za y5).1 1;have a2:=(Za y5).1 2;have b0:=(Za hb10).1 0;have b1:=(Za hb10).1 1;have b2:=(Za hb10).1 2;have b3:=(Za hb10).1 3;have z0:=(Za y7).1 0;have Hg810:=hid hg810;have Hrow:=hid ((Chg.grown (Q:=fun _=>False) hg810 (fun r e=>by cases e)).owns HR8.out.1 (fun _ _ e=>e));have HI10:=hid (HI8.out.grow hg810);have hlen:(fnL s).length≤64:=by rw[←Hn.out];exact hd64
         have hbs:=(HI8.out.grow hg810).map.size;clear he hw10 hg910 hb10 hg810 y5 y7 h58 h78 hg9;go_upto_region 22 with (fail)
         go_cut [133] from 120 to 133 (fun s133 wx=>s133=.bool false∧wx=w10)
         case first=>
          rcases Hop.out with h|h
          ·rw[h] at z0;go_wp2_with fail;go_meet;exact⟨by first|rfl|simp,rfl⟩
          ·rw[h] at z0;go_wp2_with fail;go_meet;exact⟨by first|rfl|simp,rfl⟩
         case rest=>
          obtain⟨rfl,hw⟩:=hcut;subst hw;have c3:(wc.alloc (.cells #[.int .i64 q] 3)).cell? ⟨wc.heap.size,0,none⟩=some (.int .i64 q):=(Za (World.alloc_heap_new wc _)).1 0;go_wp2_with (refine X2 rfl _ _ rfl wS.heap.size _ (fnL s) rfl (Hrow.out.alloc _) wc.heap.size q rfl c3 (by omega) (by simp;omega) ?_;intro G2 cap w11 ho3 hg3 hor;have Ho3:=hid ho3;have Hg3':=hid hg3;have Hor:=hid hor;clear ho3 hg3 hor);go_roundw
          case rel=>
           refine⟨i+1,by omega,by go_num,some ⟨G2,0,none⟩,(fnL s).length+1,cap,rfl,hid ⟨g8,S,hm8,by rw[HfS.out];simp,?_,?_,fun n e qq=>?_⟩⟩
           ·exact (HI10.out.grow (World.grownBy_alloc wc _ none)).other (Chg.grown (Q:=fun n=>(Value.slice (some ⟨G,0,none⟩) (l.length+1) c1).ownBlock=some n) Hg3'.out (fun r e=>e)) (fun n e=>⟨HR8.out.2 n e,(HR8.out.1.lt n e).1⟩)
           ·rw[HfS.out];have:=Ho3.out;rw[show (fnL s).length+1=(fnL s++[q]).length by simp] at this ⊢;exact this
           ·injection e with e
            simp only at e;subst e
            rcases Hor.out with e|e
            ·exact HR8.out.2 _ e qq
            ·have:=HI10.out.ma.lt qq;simp only[World.size_alloc] at e;omega
          case measure=>simp[intOf];omega
        ·have hE:(if S.did=true then S.ent else ((0,0,0),0))=((0,0,0),0):=by rw[hd];rfl
         rw[hE,hd] at he;simp only[Zhm] at he;rw[show ((0:Nat):Int)=0 from rfl] at he;rw[hop] at h78;have HfS:=hid (show fnL S=l.map fun b=>b.pt.1 from hac);clear hE hd hac hop;go_upto_region 20 with (go_at_call 40;refine he.mono ?_;rintro e w9 ⟨rfl,hg9⟩)
         obtain⟨w10,hw10⟩:∃ w10,w10=w9.alloc (.cells #[.int .i64 0,.int .i64 0,.int .i64 0,.int .i64 0] 81):=⟨_,rfl⟩
         rw[←hw10];have hg810:w8.grownBy w10 none:=by rw[hw10];exact Zd hg9 _
         have y7:=(hg810.block _ (Ze h78) (by simp)).trans h78;have z0:=(Za y7).1 0;have hw1:IntKind.i64.wrap ((l.length:Int)+1-1)=(l.length:Int):=by rw[IntKind.wrap_i64];omega
         have hdd:l.length+1≤9223372036854775807:=by omega
         have HO10:=hid (show OpenI p w wS w2.heap.size wB ms vq w10 g8 S (.slice (some ⟨G,0,none⟩) l.length c1) from by
                             have h1:=(Chg.grown (Q:=fun _=>False) hg810 (fun r e=>by cases e)).owns HR8.out.1 (fun _ _ e=>e)
                             rw[←Hn.out,Hfl.out,List.map_append,List.map_singleton] at h1
                             have h2:=Zqo h1
                             refine⟨HI8.out.grow hg810,?_,fun n e=>HR8.out.2 n e⟩
                             rw[HfS.out,List.length_map]
                             exact h2)
         clear he hw10 hg810 y7 h58 h78 hg9;go_wp2_with fail;go_roundw
         case rel=>exact⟨i+1,by omega,by go_num,some ⟨G,0,none⟩,l.length,c1,rfl,hid ⟨g8,S,hm8,by rw[HfS.out];simp,HO10.out⟩⟩
         case measure=>simp[intOf];omega
        ·have hE:(if S.did=true then S.ent else ((0,0,0),0))=((0,0,0),0):=by rw[hd];rfl
         rw[hE,hd] at he;simp only[Zhm] at he;rw[show ((0:Nat):Int)=0 from rfl] at he;have HfS:=hid (show fnL S=fnL s by rw[Hfl.out];exact hac);have h14:((z.op:Int) == 14)=false:=by rw[beq_eq_false_iff_ne];omega
         have Hst:=hid hst;clear hE hd hac hop hst;go_upto_region 20 with (go_at_call 40;refine he.mono ?_;rintro e w9 ⟨rfl,hg9⟩)
         obtain⟨w10,hw10⟩:∃ w10,w10=w9.alloc (.cells #[.int .i64 0,.int .i64 0,.int .i64 0,.int .i64 0] 81):=⟨_,rfl⟩
         rw[←hw10];have hg810:w8.grownBy w10 none:=by rw[hw10];exact Zd hg9 _
         have y7:=(hg810.block _ (Ze h78) (by simp)).trans h78;have z0:=(Za y7).1 0
         have HO10:=hid (show OpenI p w wS w2.heap.size wB ms vq w10 g8 S (.slice (some ⟨G,0,none⟩) (l.length+1) c1) from by
                             refine⟨HI8.out.grow hg810,?_,fun n e=>HR8.out.2 n e⟩
                             rw[HfS.out]
                             exact (Chg.grown (Q:=fun _=>False) hg810 (fun r e=>by cases e)).owns HR8.out.1 (fun _ _ e=>e))
         clear he hw10 hg810 y7 h58 h78 hg9;go_upto_region 27 with (fail)
         go_cut [158] from 147 to 158 (fun s158 wx=>s158=.bool false∧wx=w10)
         case first=>
          by_cases h10:z.op=10
          ·have hsn:((S.stop:Int) == 0)=false:=by have:=Hst.out (.inl h10);rw[beq_eq_false_iff_ne];omega
           rw[h10] at z0;go_wp2_with fail;go_meet;exact⟨by first|rfl|simp,rfl⟩
          ·by_cases h11:z.op=11
           ·have hsn:((S.stop:Int) == 0)=false:=by have:=Hst.out (.inr h11);rw[beq_eq_false_iff_ne];omega
            rw[h11] at z0;go_wp2_with fail;go_meet;exact⟨by first|rfl|simp,rfl⟩
           ·have n10:((z.op:Int) == 10)=false:=by rw[beq_eq_false_iff_ne];omega
            have n11:((z.op:Int) == 11)=false:=by rw[beq_eq_false_iff_ne];omega
            go_wp2_with fail;go_meet;exact⟨by first|rfl|simp,rfl⟩
         case rest=>
          obtain⟨rfl,hw⟩:=hcut;subst hw;go_wp2_with fail;go_roundw
          case rel=>exact⟨i+1,by omega,by go_num,some ⟨G,0,none⟩,l.length+1,c1,rfl,hid ⟨g8,S,hm8,by rw[HfS.out];exact Hn.out,HO10.out⟩⟩
          case measure=>simp[intOf];omega
      ·have hat:=Zvb hO.two.ma h0;rw[hgm] at hat;have hnd:s.acts.length=n:=by rw[hn];simp[fnL]
       have hd64:=hO.two.ok.depth;rw[hnd] at hd64;have hdone:=hO.two.ok.done;have HO1:=hid hO;have Hn:=hid hn;have hsm:s.move p (decide (ci % 2=1))=s:=by unfold GM.move;rw[if_neg h0]
       obtain⟨f,y,x,hf,hy,hx⟩:=Zuu HN.out.1;have Hdone:=hid hdone;have Hsm:=hid hsm;have Hnd:=hid hnd;clear hO hn hdone hsm hnd;go_upto_region 15 with (go_at_call 32;refine hat.mono ?_;rintro e w3 ⟨rfl,hg3⟩)
       obtain⟨w4,hw4⟩:∃ w4,w4=w3.alloc (.cells #[.int .i64 0,.int .i64 0,.int .i64 0] 41):=⟨_,rfl⟩
       rw[←hw4];have hg4:wr.grownBy w4 none:=by rw[hw4];exact Zd hg3 _
       have hb4:w4.heap[w3.heap.size]?=some (.cells #[.int .i64 0,.int .i64 0,.int .i64 0] 41 (0,0)):=by rw[hw4];exact World.alloc_heap_new _ _
       have Hdp:=hid (fun m=>by
                          have:=Q4 (HO1.out.grow (Zg hg4 m)).two.ma
                          rw[hgm,Hnd.out] at this
                          exact this)
       have Hst:=hid (fun m=>by
                          have:=Us (HO1.out.grow (Zg hg4 m)).two.ma
                          rw[hgm] at this
                          exact this)
       have Hg4:=hid hg4;have Hb4:=hid hb4;have hz2:¬ (64<(n:Int)):=by omega
       clear hw4 hb4 hat hg3 hg4;go_cut [99] from 62 to 99 (fun s99 wx=>s99=.bool false∧∃ m,wx=w4.drewN m)
       case first=>
        by_cases h1:s.stop=1
        ·have hn0:n=0:=by rw[←Hnd.out,Hdone.out.2 h1];rfl
         subst hn0;rw[h1] at Hst;go_quiet ((first|(go_at_call 38;exact (Hdp.out _).mono fun e w' h=>⟨h.1,_,h.2.symm⟩)|(go_at_call 39;exact (Hst.out _).mono fun e w' h=>⟨h.1,_,h.2.symm⟩)));go_wp2_with fail;go_meet;exact⟨by first|rfl|simp,_,rfl⟩
        ·have hn0:((n:Int) == 0)=false:=by
          rw[beq_eq_false_iff_ne];intro e;exact h1 (Hdone.out.1 (List.length_eq_zero_iff.1 (by rw[Hnd.out];omega)))
         have hs1:((s.stop:Int) == 1)=false:=by rw[beq_eq_false_iff_ne];omega
         go_quiet ((first|(go_at_call 38;exact (Hdp.out _).mono fun e w' h=>⟨h.1,_,h.2.symm⟩)|(go_at_call 39;exact (Hst.out _).mono fun e w' h=>⟨h.1,_,h.2.symm⟩)));go_wp2_with fail;go_meet;exact⟨by first|rfl|simp,_,rfl⟩
       case rest=>
        obtain⟨rfl,m,hm⟩:=hcut;have hg5:wr.grownBy wc none:=hm▸Zg Hg4.out m;have hb5:wc.heap[w3.heap.size]?=some (.cells #[.int .i64 0,.int .i64 0,.int .i64 0] 41 (0,0)):=by rw[hm];exact Hb4.out
        have hins:=Zay ((HO1.out.grow hg5).two.mapAt HS.out) hf hy hx;simp only[insV] at hins;rw[show ((0:Nat):Int)=0 from rfl] at hins;have k0:=(Za hb5).1 0;have k1:=(Za hb5).1 1;have k2:=(Za hb5).1 2;clear hm hb5 Hdp Hst hz2 Hg4 Hb4;go_upto_region 18 with (go_at_call 26;refine hins.mono ?_;rintro e w6 ⟨A5,d5,A6,d6,rfl,-,hg6⟩)
        obtain⟨w7,hw7⟩:∃ w7,w7=w6.alloc (.cells #[.int .u8 x.op,.string ⟨x.dst.toArray⟩,.string ⟨x.a.toArray⟩,.string ⟨x.b.toArray⟩,.int .i64 x.n,.string ⟨x.fn.toArray⟩,.slice A5 x.args.length d5,.slice A6 x.labels.length d6] 25):=⟨_,rfl⟩
        rw[←hw7];have hg7:wr.grownBy w7 none:=by rw[hw7];exact Zd (Zb hg5 hg6) _
        have hmo:=TwoI.move HE.out (HO1.out.two.grow hg7) ci;rw[hgm,Hsm.out] at hmo;have hrc:=HrC.out w7 (Zb hgW.out hg7);have Hg7:=hid hg7;clear hw7 hg5 hg6 hg7 hins k0 k1 k2 HrC;go_upto_region 19 with (go_at_call 36;refine hmo.mono ?_;rintro e w8 ⟨rfl,g8,hm8,hs8,hI8⟩)
        have hrow8:=(HO1.out.grow Hg7.out).row_kept hs8;have he:=Jb hI8.ma;obtain⟨⟨⟨e0,e1,e2⟩,e3⟩,hen⟩:∃ q,q=(if s.did=true then s.ent else ((0,0,0),0)):=⟨_,rfl⟩
        obtain⟨sd,hsd⟩:∃ sd,sd=s.did:=⟨_,rfl⟩
        rw[hm8,←hen,←hsd] at he;simp only[Zhm] at he;have HO8:=hid (show OpenI p w wS w2.heap.size wB ms vq w8 g8 s (.slice A1 n c1) from ⟨hI8,hrow8.1,hrow8.2⟩);clear hmo hs8 hI8 hrow8 hen hsd;go_upto_region 20 with (go_at_call 40;refine he.mono ?_;rintro e w9 ⟨rfl,hg9⟩;have Hg9:=hid hg9;clear hg9)
        go_wp2_with fail;go_roundw
        case rel=>exact⟨i+1,by omega,by go_num,A1,n,c1,rfl,hid ⟨g8,s,hm8,Hn.out,HO8.out.grow (Zd Hg9.out _)⟩⟩
        case measure=>simp[intOf];omega
     ·obtain rfl:i=cs.length:=by omega
      have Hg:=hid hO.two.grown;have hdp:=Q4 hO.two.ma;rw[hgm,show s.acts.length=n by rw[hn];simp[fnL]] at hdp;clear hO;go_wp2_with (first|(go_at_call 38;refine hdp.mono ?_;rintro e w5 ⟨rfl,rfl⟩)|(go_at_call 30;refine (Xi _).mono ?_;rintro e w4 ⟨rfl,hg4⟩));go_ret;exact⟨by first|rfl|simp,Zb Hg.out hg4⟩
   ·have hnew:=Znc p _ w1 B (HH.out.le _ hg1) (HH.out.prog _ hg1) hz;go_upto_region 4 with (go_at_call 31;refine hnew.mono ?_;rintro e w2 ⟨rfl,hg2⟩)
    have hc2:=HH.out.cell w2 (Zb hg1 hg2);have hnew2:=Zkd p _ w2 B (HH.out.le _ (Zb hg1 hg2)) (HH.out.prog _ (Zb hg1 hg2)) hz;clear hnew hc1;go_upto_region 5 with (go_at_call 22;refine hnew2.mono ?_;rintro e w3 ⟨rfl,hg3⟩)
    clear hnew2 hc2;go_wp2_with (go_at_call 30;refine (Xi _).mono ?_;rintro e w4 ⟨rfl,hg4⟩);go_ret;exact⟨rfl,Zb Hg1.out (Zb hg2 (Zb hg3 hg4))⟩
end Go.Proofs.YtphnnmecmiodhaaGreat

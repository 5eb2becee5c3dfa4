/- The contract of gnomonlaw12. Conditions in it. -/
import Derived.Test.YtlcogjllnbfneaaGreatEKg
import Derived.Test.YtlcogjllnbfneaaGreatELwSp
import Derived.Test.YtlcogjllnbfneaaGreatESitG
import Derived.Deep.CutRange
set_option maxHeartbeats 8000000
set_option maxRecDepth 100000
set_option linter.all false
namespace Go.Proofs.YtlcogjllnbfneaaGreat
open Lib(hid)
open Go.RowKit Go.Shelf
def Yib:Value:=.string ⟨#[115,112,111,105,108,116]⟩
def RowK (w:World) (A:Option Addr) (base k:Nat) (l:List Str):Prop:=∀ g,A=some g->∃ b cur,g=⟨b,0,none⟩/\base<=b/\w.heap[b]?=some (.cells cur 9 (0,0))/\l.length<=cur.size/\∀ j s,k<=j->l[j]?=some s->cur[j]?=some (encS s)
theorem Yia {w:World} {A:Option Addr} {base c:Nat} {l:List Str} (h:w.ownsRow base 9 1 (.slice A l.length c) l.length (l.map encS)):RowK w A base 0 l/\(A=none->l.length=0)/\l.length<=c/\c<=9223372036854775807:=by
 obtain⟨_,h2⟩:=h
 rcases h2 with ⟨e,h0⟩|⟨g,cap,cur,e,hb,hh,hc,hm,hcs,ht⟩
 ·simp only[Value.slice.injEq] at e;exact⟨fun g hg=>(by rw[e.1] at hg;cases hg),fun _=>h0,by omega,by omega⟩
 ·simp only[Value.slice.injEq] at e;unfold maxLen at hm;refine⟨fun a ha=>?_,fun ha=>?_,by omega,by omega⟩
  ·rw[e.1] at ha;injection ha with ha
   refine⟨g,cur,ha.symm,hb,hh,?_,fun j s _ hj=>?_⟩
   ·have:=congrArg List.length ht;simp only[List.length_take,List.length_map,Array.length_toList] at this;omega
   ·have hjl:=(Le hj).1;have e1:(cur.toList.take (l.length*1))[j]?=some (encS s):=by rw[ht,List.getElem?_map,hj];rfl
    rw[List.getElem?_take_of_lt (by omega)] at e1;simpa using e1
  ·rw[e.1] at ha
   cases ha
theorem RowK.chg {w w':World} {A:Option Addr} {base k:Nat} {l:List Str} {Q:Nat->Prop} (h:RowK w A base k l) (hg:Chg Q w w') (hq:∀ b,A=some ⟨b,0,none⟩->¬ Q b):RowK w' A base k l:=fun g hA=>by
 obtain⟨b,cur,e,h1,h2,h3⟩:=h g hA;subst e;exact⟨b,cur,rfl,h1,hg.at_ h2 (hq b hA),h3⟩
theorem RowK.cell {w:World} {A:Option Addr} {base k:Nat} {l:List Str} (h:RowK w A base k l) {j:Nat} (hj:j<l.length) (hk:k<=j) (hn:A=none->l.length=0):∃ b s,A=some ⟨b,0,none⟩/\l[j]?=some s/\base<=b/\b<w.heap.size/\w.cell? ⟨b,j,none⟩=some (.string ⟨s.toArray⟩)/\w.frozen? ⟨b,j,none⟩=false:=by
 cases A with
 |none=>have:=hn rfl;omega
 |some g=>
  obtain⟨b,cur,rfl,h1,h2,h3,h4⟩:=h g rfl;have hs:l[j]?=some l[j]:=Ld hj;exact⟨b,l[j],rfl,hs,h1,Ze h2,by rw[(Za h2).1];exact h4 j _ hk hs,(Za h2).2 j⟩
theorem RowK.put {w:World} {A:Option Addr} {base k b:Nat} {l:List Str} (h:RowK w A base k l) (hA:A=some ⟨b,0,none⟩) (u:Value):RowK (w.setCell ⟨b,k,none⟩ u) A base (k+1) l:=fun g hg=>by
 obtain⟨b',cur,rfl,h1,h2,h3,h4⟩:=h g hg;rw[hA] at hg;injection hg with hg
 injection hg with hg
 subst hg;refine⟨b,_,rfl,h1,Zs h2 k u,by simpa using h3,fun j s hj hs=>?_⟩;rw[Array.getElem?_setIfInBounds,if_neg (by omega)];exact h4 j s (by omega) hs
theorem Yiu (p:GProg) (vp:Value) (B:Nat) (w:World) (hB:B<=w.heap.size) (h:ProgAt w B vp p):Calls Tryz.prog 4 #[.agg #[vp]] w fun e w'=>e=.returned (.bool true)/\w.grownBy w' none:=by
 obtain⟨A,c,rfl,m1,m2,m3,hA⟩:=h.open_;obtain⟨W,hW⟩:∃ W:World,W=w.alloc (.cells #[.slice A p.length c] 47):=⟨_,rfl⟩
 have hgW:w.grownBy W none:=by rw[hW];exact Lc _ _ _
 have hb:W.heap[w.heap.size]?=some (.cells #[.slice A p.length c] 47 (0,0)):=by rw[hW];exact La _ _
 have HS:=hid (show ∀ W',W.grownBy W' none->W'.cell? ⟨w.heap.size,0,none⟩=some (.slice A p.length c) from fun W' hg=>(Lj (hg.block w.heap.size (Ze hb) (by simp))).trans ((Za hb).1 0));have HP:=hid (show ∀ W',W.grownBy W' none->ProgAt W' B (.slice A p.length c) p from fun W' hg=>h.below funR.keeps (Zk (Zb hgW hg)) hB);have hBW:∀ W',W.grownBy W' none->B<=W'.heap.size:=fun W' hg=>by have:=hgW.size;have:=hg.size;omega
 have HB:=hid hBW;have hgr:=Yie p _ W B (HB.out W (Lb _ _)) (HP.out W (Lb _ _));have HgW:=hid hgW;have hc:=HS.out W (Lb _ _);clear hb hgW hA h hBW;go_enter Tryz.func4,Tryz.ntmps4;go_upto_region 1 with (fail)
 rw[<-hW];clear hW;go_upto_if 19 with (go_at_call 14;refine hgr.mono ?_;rintro e w1 ⟨bg,rfl,hg1⟩)
 have hc1:=HS.out w1 hg1
 cases bg with
 |true=>
  go_wp2_with (go_at_call 15;refine (Yhn _).mono ?_;rintro e w2 ⟨rfl,hg2⟩);go_ret;exact⟨rfl,Zb HgW.out (Zb hg1 hg2)⟩
 |false=>
  by_cases hz:(Y5 p).1=0
  ·have hN:=Jt hz;have hnew:=Zkc p _ w1 B (HB.out _ hg1) (HP.out _ hg1) (Zjs hN) hz;go_upto_region 6 with (go_at_call 16;refine hnew.mono ?_;rintro e w2 ⟨m,rfl,hM,hg2⟩)
   have hpr:=Yiw hM (Zjs hN);have HM:=hid hM;have hg12:=Zb HgW.out (Zb hg1 hg2);have Hg12:=hid hg12;clear hnew hc hc1 hM hg12 hg1 hg2 hgr;go_upto_region 7 with (go_at_call 17;refine hpr.mono ?_;rintro e w3 ⟨A3,c3,rfl,hT3,hg3⟩)
   obtain⟨wq,hwq⟩:∃ wq:World,wq=w3.alloc (.cells #[.slice A3 p.length c3] 47):=⟨_,rfl⟩
   have hgq:w3.grownBy wq none:=by rw[hwq];exact Lc _ _ _
   have hbq:wq.heap[w3.heap.size]?=some (.cells #[.slice A3 p.length c3] 47 (0,0)):=by rw[hwq];exact La _ _
   have hsq:wq.heap.size=w3.heap.size+1:=by rw[hwq];simp
   have q0:wq.cell? ⟨w3.heap.size,0,none⟩=some (.slice A3 p.length c3):=(Za hbq).1 0;obtain⟨hPA,hPT⟩:=hT3 w3 w3.heap.size (SupI.refl _ _);have hnew:=Zkc p _ wq w3.heap.size (by omega) (hPA.below funR.keeps (Zk hgq) (Lf _)) (Zjs hN) hz;rw[<-hwq];have HPT:=hid hPT;have Hq:=hid (And.intro hgq (And.intro hbq hsq));have Hg3:=hid hg3;clear hwq hgq hbq hPA hPT hT3 hpr hg3 hsq;go_upto_region 10 with (go_at_call 16;refine hnew.mono ?_;rintro e w4 ⟨mb,rfl,hMb,hg4⟩)
   have hpt:=Yig (HM.out.grown (Zb Hg3.out (Zb Hq.out.1 hg4)));have HMb:=hid hMb;have Hg4:=hid hg4;clear hnew hMb hg4 q0;go_upto_region 11 with (go_at_call 18;refine hpt.mono ?_;rintro e w5 ⟨hb5,A5,c5,rfl,hp1,hp2,hp3⟩)
   unfold maxLen at hp2;have hg5:=Zj hb5;have q0:w5.cell? ⟨w3.heap.size,0,none⟩=some (.slice A3 p.length c3):=by
    have hg:=Zb Hg4.out hg5;exact (Lj (hg.block _ (Ze Hq.out.2.1) (by simp))).trans ((Za Hq.out.2.1).1 0)
   have hsp:=Yjb HPT.out (Zb Hq.out.1 (Zb Hg4.out hg5));have Hp3:=hid hp3;have Hg5:=hid hg5;clear hpt hp3 hb5 hg5;go_upto_region 12 with (go_at_call 19;refine hsp.mono ?_;rintro e w6 ⟨rfl,hc6⟩)
   have hs23:=Hg3.out.size;have hsq:=Hq.out.2.2;have hs45:=Hg5.out.size;have hsq4:=Hg4.out.size;have HA0:=hid (show Chg (fun n=>w2.heap.size<=n) w2 w6 from ((Chg.grown (Q:=fun n=>w2.heap.size<=n) (Zb Hg3.out (Zb Hq.out.1 (Zb Hg4.out Hg5.out))) (fun r e=>by cases e)).trans hc6 (fun n _ e=>by omega)));have HC0:=hid (show Chg (fun n=>n<wq.heap.size\/w5.heap.size<=n) w5 w6 from hc6.mono (fun n _ e=>by omega));have HN:=hid hN;clear hsp hc6 q0 hN;go_wp2_with fail;go_loopw [9] (fun s9 wr=>∃ i:Nat,i<=(Zh p p.length).pl.length/\s9=.int .i64 i/\Hid (Chg (fun n=>w2.heap.size<=n) w2 wr)/\Hid (Chg (fun n=>n<wq.heap.size\/w5.heap.size<=n) w5 wr)) (fun s9 _=>(Zh p p.length).pl.length-(intOf s9).toNat)
   case atStart=>exact⟨0,Ln _,rfl,HA0,HC0⟩
   case round=>
    obtain⟨i,hi,rfl,hHA,hHC⟩:=hrel;clear HA0 HC0;have hMA:=HM.out.chg hHA.out (fun n _ h1 h2=>by omega);have hMB:=(HMb.out.grown Hg5.out).chg hHC.out (fun n h0 h1 h2=>by omega);have hs5r:=hHC.out.size
    by_cases hil:i<(Zh p p.length).pl.length
    ·obtain⟨q,hq⟩:∃ q,(Zh p p.length).pl[i]?=some q:=⟨_,Ld hil⟩
     obtain⟨gl,cur,rfl,hgl,hgb,hgr⟩:∃ gl cur,A5=some ⟨gl,0,none⟩/\w4.heap.size<=gl/\w5.heap[gl]?=some (.cells cur 41 (0,0))/\∀ k x,(Zh p p.length).pl[k]?=some x->ptR w5 w4.heap.size gl (k*3) x:=by
      rcases Hp3.out with ⟨_,h0,_⟩|⟨g,cur,e,h1,h2,h3⟩
      ·rw[h0] at hq;simp at hq
      ·exact⟨g,cur,e,h1,h2,h3⟩
     obtain⟨l0,l1,l2⟩:=hgr i q hq;have hgr':=hHC.out.at_ hgb (by have:=Ze hgb;omega);have hcl:∀ o,wr.cell? ⟨gl,o,none⟩=w5.cell? ⟨gl,o,none⟩:=fun o=>Lj (hgr'.trans hgb.symm)
     have hgll:=Ze hgb
     have HL:=hid (show ∀ W',Chg (fun n=>wr.heap.size<=n) wr W'->W'.cell? ⟨gl,i*3,none⟩=some (.int .i64 q.1)/\W'.cell? ⟨gl,i*3+1,none⟩=some (.int .i64 q.2.1)/\W'.cell? ⟨gl,i*3+2,none⟩=some (.int .i64 q.2.2) from fun W' hg=>by
      have e:∀ o,W'.cell? ⟨gl,o,none⟩=wr.cell? ⟨gl,o,none⟩:=fun o=>Lj (hg.block gl (Ze hgr') (by have:=Ze hgr';omega))
      exact⟨(e _).trans ((hcl _).trans l0),(e _).trans ((hcl _).trans l1),(e _).trans ((hcl _).trans l2)⟩)
     obtain⟨z,hzm⟩:∃ z,(q,z)∈pts p:=by
      have:=Ll hq;rw[Zmz] at this;obtain⟨⟨q',z⟩,h1,h2⟩:=List.mem_map.1 this;exact⟨z,by rw[<-h2];exact h1⟩
     obtain⟨x,y,hx,hy,hz'⟩:=Ut hzm;have hib:=Yhp hMB hx hy hz';have HMA:=hid hMA;have HMB:=hid hMB;have HQ:=hid (And.intro hx (And.intro hy hz'));obtain⟨k0,k1,k2⟩:=HL.out wr (Chg.refl _ _);simp only[insV] at hib;clear hMA hMB hq hgb hgr l0 l1 l2 hgr' hcl hzm hx hy hz';go_upto_region 16 with (go_at_call 20;refine hib.mono ?_;rintro e w7 ⟨A7,d7,A8,d8,rfl,-,hg7,ho7⟩)
     obtain⟨W7,hW7⟩:∃ W7,W7=w7.alloc (.cells #[.int .u8 z.op,.string ⟨z.dst.toArray⟩,.string ⟨z.a.toArray⟩,.string ⟨z.b.toArray⟩,.int .i64 z.n,.string ⟨z.fn.toArray⟩,.slice A7 z.args.length d7,.slice A8 z.lb9.length d8] 25):=⟨_,rfl⟩
     rw[<-hW7];have hx7:W7.heap[w7.heap.size]?=some (.cells #[.int .u8 z.op,.string ⟨z.dst.toArray⟩,.string ⟨z.a.toArray⟩,.string ⟨z.b.toArray⟩,.int .i64 z.n,.string ⟨z.fn.toArray⟩,.slice A7 z.args.length d7,.slice A8 z.lb9.length d8] 25 (0,0)):=by rw[hW7];exact La w7 _
     have hgW7:wr.grownBy W7 none:=by rw[hW7];exact Zd hg7 _
     have hsW7:W7.heap.size=w7.heap.size+1:=by rw[hW7];simp
     obtain⟨hr7,hn7,hl7,hm7⟩:=Yia ho7;have hr7:RowK W7 A7 wr.heap.size 0 z.args:=by rw[hW7];exact hr7.chg (Chg.alloc (fun _=>False) w7 _) (fun _ _ h=>h)
     have ht7:∀ b,A7=some ⟨b,0,none⟩->wr.heap.size<=b/\b<w7.heap.size:=fun b hb=>ho7.lt b (by rw[hb];rfl)
     have hia:=Yhp (HMA.out.grown hgW7) HQ.out.1 HQ.out.2.1 HQ.out.2.2;simp only[insV] at hia;obtain⟨l0,l1,l2⟩:=HL.out W7 (Chg.grown hgW7 (fun r e=>by cases e));have Hx7:=hid hx7;have HgW7:=hid hgW7;have Hr7:=hid hr7;have Ht7:=hid ht7;have hsw7:=hg7.size;clear hW7 hib k0 k1 k2 hx7 hgW7 hr7 ho7 hg7 ht7;go_upto_region 17 with (go_at_call 20;refine hia.mono ?_;rintro e w8 ⟨A9,d9,A10,d10,rfl,-,hg8,ho8⟩)
     obtain⟨W8,hW8⟩:∃ W8,W8=w8.alloc (.cells #[.int .u8 z.op,.string ⟨z.dst.toArray⟩,.string ⟨z.a.toArray⟩,.string ⟨z.b.toArray⟩,.int .i64 z.n,.string ⟨z.fn.toArray⟩,.slice A9 z.args.length d9,.slice A10 z.lb9.length d10] 25):=⟨_,rfl⟩
     rw[<-hW8];have hy8:W8.heap[w8.heap.size]?=some (.cells #[.int .u8 z.op,.string ⟨z.dst.toArray⟩,.string ⟨z.a.toArray⟩,.string ⟨z.b.toArray⟩,.int .i64 z.n,.string ⟨z.fn.toArray⟩,.slice A9 z.args.length d9,.slice A10 z.lb9.length d10] 25 (0,0)):=by rw[hW8];exact La w8 _
     have hgW8:W7.grownBy W8 none:=by rw[hW8];exact Zd hg8 _
     obtain⟨hr8,hn8,hl8,hm8⟩:=Yia ho8;have hr8:RowK W8 A9 W7.heap.size 0 z.args:=by rw[hW8];exact hr8.chg (Chg.alloc (fun _=>False) w8 _) (fun _ _ h=>h)
     have ht8:∀ b,A9=some ⟨b,0,none⟩->W7.heap.size<=b/\b<w8.heap.size:=fun b hb=>ho8.lt b (by rw[hb];rfl)
     have hx8:=(hgW8.block _ (Ze Hx7.out) (by simp)).trans Hx7.out;obtain⟨x1,-⟩:=Za hx8;obtain⟨y1,-⟩:=Za hy8;have HrA:=hid (Hr7.out.chg (Chg.grown (Q:=fun _=>False) hgW8 (fun r e=>by cases e)) (fun _ _ h=>h));have hsw8:=hg8.size;have HK8:=hid (And.intro hx8 (And.intro hy8 (And.intro hr8 (And.intro (Zb HgW7.out hgW8) ht8))));clear hW8 hia l0 l1 l2 hx8 hy8 hr8 hgW8 ho8 hg8 ht8;go_upto_region 20 with fail;clear x1 y1;go_loopw [14] (fun s14 wi=>∃ k:Nat,k<=z.args.length/\s14=.int .i64 k/\Hid (RowK wi A7 wr.heap.size k z.args)/\Hid (Chg (fun n=>wr.heap.size<=n/\n<w7.heap.size) W8 wi)) (fun s14 _=>z.args.length-(intOf s14).toNat)
     case atStart=>exact⟨0,Ln _,rfl,HrA,hid (Chg.refl _ _)⟩
     case round=>
      rename World=>wi
      obtain⟨k,hk,rfl,hRk,hCk⟩:=hrel;clear HrA;obtain⟨x1,-⟩:=Za (hCk.out.at_ HK8.out.1 (by omega));obtain⟨y1,-⟩:=Za (hCk.out.at_ HK8.out.2.1 (by omega));have x6:=x1 6;have y6:=y1 6;simp only[List.getElem?_toArray,List.getElem?_cons_succ,List.getElem?_cons_zero] at x6 y6;clear x1 y1;have hRy:=HK8.out.2.2.1.chg hCk.out (fun b hb=>by have:=HK8.out.2.2.2.2 b hb;omega)
      by_cases hkl:k<z.args.length
      ·obtain⟨bx,s,eA7,hs,hbx,-,cx,fx⟩:=hRk.out.cell hkl (Lf _) hn7;obtain⟨bz,s',eA9,hs',hbz,-,cz,-⟩:=hRy.cell hkl (Ln _) hn8;obtain rfl:s=s':=by rw[hs] at hs';injection hs'
       have hbt:=Ht7.out bx eA7;have HR2:=hid (fun n=>(show RowK (wi.drewN n) A7 wr.heap.size k z.args from hRk.out).put eA7 Yib);have HC2:=hid (fun n=>(hCk.out.trans (Chg.grown (Q:=fun n=>wr.heap.size<=n/\n<w7.heap.size) (Zg (Lb wi none) n) (fun r e=>by cases e)) (fun _ _ e=>e)).trans (Chg.set (Q:=fun n=>wr.heap.size<=n/\n<w7.heap.size) (wi.drewN n) (p:=⟨bx,k,none⟩) hbt Yib) (fun _ _ e=>e));unfold Yib at HR2 HC2;subst eA7 eA9;clear hs hs' hRy;go_upto_region 22 with fail;go_quiet (fail);go_wp2_with fail;go_roundw
       case rel=>exact⟨k+1,by omega,by go_num,hid (HR2.out _),hid (HC2.out _)⟩
       case measure=>simp[intOf];omega
      ·obtain rfl:k=z.args.length:=by omega
       have hcw:Chg (fun n=>wr.heap.size<=n) wr wi:=(Chg.grown (Q:=fun n=>wr.heap.size<=n) HK8.out.2.2.2.1 (fun r e=>by cases e)).trans hCk.out (fun n _ e=>e.1);obtain⟨l0,l1,l2⟩:=HL.out wi hcw;have hMBi:=HMB.out.chg hcw (fun n h0 h1 h2=>by omega);have hib:=Yhp hMBi HQ.out.1 HQ.out.2.1 HQ.out.2.2;simp only[insV] at hib;have Hcw:=hid hcw;have HRy:=hid hRy;have HY:=hid (hCk.out.at_ HK8.out.2.1 (by omega));clear hMBi hcw hRy y6;go_upto_region 26 with (go_at_call 20;refine hib.mono ?_;rintro e w9 ⟨A11,d11,A12,d12,rfl,-,hg9,ho9⟩)
       obtain⟨W9,hW9⟩:∃ W9,W9=w9.alloc (.cells #[.int .u8 z.op,.string ⟨z.dst.toArray⟩,.string ⟨z.a.toArray⟩,.string ⟨z.b.toArray⟩,.int .i64 z.n,.string ⟨z.fn.toArray⟩,.slice A11 z.args.length d11,.slice A12 z.lb9.length d12] 25):=⟨_,rfl⟩
       rw[<-hW9];have hz9:W9.heap[w9.heap.size]?=some (.cells #[.int .u8 z.op,.string ⟨z.dst.toArray⟩,.string ⟨z.a.toArray⟩,.string ⟨z.b.toArray⟩,.int .i64 z.n,.string ⟨z.fn.toArray⟩,.slice A11 z.args.length d11,.slice A12 z.lb9.length d12] 25 (0,0)):=by rw[hW9];exact La w9 _
       have hgW9:wi.grownBy W9 none:=by rw[hW9];exact Zd hg9 _
       obtain⟨hr9,hn9,hl9,hm9⟩:=Yia ho9;have hr9:RowK W9 A11 wi.heap.size 0 z.args:=by rw[hW9];exact hr9.chg (Chg.alloc (fun _=>False) w9 _) (fun _ _ h=>h)
       have hry9:=HRy.out.chg (Chg.grown (Q:=fun _=>False) hgW9 (fun r e=>by cases e)) (fun _ _ h=>h);obtain⟨z1,-⟩:=Za hz9;obtain⟨y1,-⟩:=Za ((hgW9.block _ (Ze HY.out) (by simp)).trans HY.out);have z6:=z1 6;simp only[List.getElem?_toArray,List.getElem?_cons_succ,List.getElem?_cons_zero] at z6;have HZ9:=hid (And.intro hz9 ((hgW9.block _ (Ze HY.out) (by simp)).trans HY.out));have Hr9:=hid hr9;have Hry9:=hid hry9;have HgW9:=hid hgW9;clear hW9 hib l0 l1 l2 hz9 hr9 hry9 hgW9 ho9 hg9 z1 y1 x6;go_wp2_with fail;go_loopw [17] (fun s17 wj=>∃ k:Nat,k<=z.args.length/\s17=.int .i64 k/\Hid (W9.grownBy wj none)) (fun s17 _=>z.args.length-(intOf s17).toNat)
       case atStart=>exact⟨0,Ln _,rfl,Lb _ _⟩
       case round=>
        rename World=>wj
        obtain⟨k,hk,rfl,hgj⟩:=hrel;obtain⟨z1,-⟩:=Za ((hgj.out.block _ (Ze HZ9.out.1) (by simp)).trans HZ9.out.1);obtain⟨y1,-⟩:=Za ((hgj.out.block _ (Ze HZ9.out.2) (by simp)).trans HZ9.out.2);have z6:=z1 6;have y6:=y1 6;simp only[List.getElem?_toArray,List.getElem?_cons_succ,List.getElem?_cons_zero] at z6 y6;clear z1 y1;have hr9j:=Hr9.out.chg (Chg.grown (Q:=fun _=>False) hgj.out (fun r e=>by cases e)) (fun _ _ h=>h);have hryj:=Hry9.out.chg (Chg.grown (Q:=fun _=>False) hgj.out (fun r e=>by cases e)) (fun _ _ h=>h)
        by_cases hkl:k<z.args.length
        ·obtain⟨bx,s,eA11,hs,hbx,-,cx,fx⟩:=hr9j.cell hkl (Ln _) hn9;obtain⟨bz,s',eA9,hs',hbz,-,cz,-⟩:=hryj.cell hkl (Ln _) hn8;obtain rfl:s=s':=by rw[hs] at hs';injection hs'
         subst eA11 eA9;clear hs hs' hr9j hryj;go_upto_region 29 with fail;go_quiet (fail);go_wp2_with fail;go_roundw
         case rel=>exact⟨k+1,by omega,by go_num,hid (by first|exact Zg hgj.out _|exact Zb hgj.out (Zg (Lb _ _) _))⟩
         case measure=>simp[intOf];omega
        ·have hcf:=Hcw.out.trans (Chg.grown (Q:=fun n=>wr.heap.size<=n) (Zb HgW9.out hgj.out) (fun r e=>by cases e)) (fun _ _ e=>e);have hs2:=HMA.out;have HAf:=hid (hHA.out.trans hcf (fun n hn e=>by have:=hHA.out.size;omega));have HCf:=hid (hHC.out.trans hcf (fun n hn e=>by omega));clear hcf hs2 hr9j hryj;go_wp2_with fail;go_roundw
         case rel=>exact⟨i+1,by omega,by go_num,HAf,HCf⟩
         case measure=>simp[intOf];omega
    ·obtain rfl:i=(Zh p p.length).pl.length:=by omega
     have v1:=Yhq hMA;have v2:=Yhq hMB;have o1:=Yec hMA;have o2:=Yec hMB
     go_wp2_with (first
                  |(go_at_call 21;with_reducible (change Calls Tryz.prog _ #[Value.pointer (some ⟨m,0,none⟩)] _ _);refine v1.mono ?_;rintro e w7 ⟨rfl,rfl⟩)
                  |(go_at_call 21;with_reducible (change Calls Tryz.prog _ #[Value.pointer (some ⟨mb,0,none⟩)] _ _);refine v2.mono ?_;rintro e w7 ⟨rfl,rfl⟩)
                  |(go_at_call 22;with_reducible (change Calls Tryz.prog _ #[Value.pointer (some ⟨m,0,none⟩)] _ _);refine o1.mono ?_;rintro e w7 ⟨rfl,rfl⟩)
                  |(go_at_call 22;with_reducible (change Calls Tryz.prog _ #[Value.pointer (some ⟨mb,0,none⟩)] _ _);refine o2.mono ?_;rintro e w7 ⟨rfl,rfl⟩)
                  |(go_at_call 15;refine (Yhn _).mono ?_;rintro e w8 ⟨rfl,hg8⟩))
     go_ret;refine⟨rfl,?_⟩;have hs12:=Hg12.out.size;exact Zb (Chg.after Hg12.out hHA.out (fun n hn e=>by omega)) hg8
  ·have hnew:=Zkd p _ w1 B (HB.out _ hg1) (HP.out _ hg1) hz;go_wp2_with (first|(go_at_call 16;refine hnew.mono ?_;rintro e w2 ⟨rfl,hg2⟩)|(go_at_call 15;refine (Yhn _).mono ?_;rintro e w3 ⟨rfl,hg3⟩));go_ret;exact⟨rfl,Zb HgW.out (Zb hg1 (Zb hg2 hg3))⟩

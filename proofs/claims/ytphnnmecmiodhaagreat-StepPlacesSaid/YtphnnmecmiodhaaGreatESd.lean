/- The machine of package step. Conditions in it. -/
import Derived.Test.YtphnnmecmiodhaaGreatEStTo
import Derived.Laws.BitsLemmas
set_option maxHeartbeats 8000000
set_option maxRecDepth 100000
set_option linter.all false
namespace Go.Proofs.YtphnnmecmiodhaaGreat
open Lib(hid)
section
open Go.RowKit Go.Shelf
variable {wB:Bs} {lo ms:Nat} {vp:Value} {p:GProg} {W W':World} {g:SAd} {s:GM} {l:List GAct} {a:GAct} {z:GIns} {A7 A8:Option Addr} {d7 d8:Nat}
theorem Zks (x:Int):bits .and .i64 x 1=x % 2:=by
 simp only[bits,BitVec.toNat_and];have e:(BitVec.ofInt IntKind.i64.bits 1).toNat=1:=by decide
 rw[e,Nat.and_one_is_mod,BitVec.toNat_ofInt,IntKind.wrap_i64];have e2:(2:Int) ^ IntKind.i64.bits=18446744073709551616:=by decide
 simp only[IntKind.bits];omega
theorem Zsl (h:Ma wB ms vp W g s) {L:Str} (h0:z.lb9[0]?=some L) (hA:∀ W',W.grownBy W' none->StrsAt W' wB.heap.size (.slice A8 z.lb9.length d8) z.lb9)
  (hto:∀ W',W.grownBy W' none->Calls Tryz.prog 181 #[.pointer (some ⟨g.m,0,none⟩),.string ⟨L.toArray⟩] W' (MOut wB ms vp W' g (s.jump p L))):
  Calls Tryz.prog 120 #[.pointer (some ⟨g.m,0,none⟩),Ui z A7 d7 A8 d8] W (MOut wB ms vp W g (s.jump p L)):=by
 obtain⟨W1,hW1,hg1,hI⟩:=Vu W z A7 d7 A8 d8;obtain⟨A,c,e,m1,m2,m3,-⟩:=(hA W1 hg1).open_;obtain⟨t,gt,ot,ht,e2,hgt,htc,-⟩:=(hA W1 hg1).at_ (Le h0).1;rw[h0] at ht
 cases ht
 subst e2
 cases e
 have k7:W1.cell? ⟨W.heap.size,7,none⟩=some (.slice (some ⟨gt,ot,none⟩) z.lb9.length d8):=hI _ (Lb _ _) 7;have hl:=(Le h0).1;have ht:=hto W1 hg1;have Hs:=hid ((Stp.refl W g).grow hg1);simp only[Nat.zero_mul,Nat.add_zero] at htc;clear h hA hto hI h0 hg1;unfold Ui;go_enter Tryz.func120,Tryz.ntmps120;go_upto_region 1 with (fail)
 rw[<-hW1];clear hW1;go_wp2_with (go_at_call 181;refine ht.mono ?_;rintro e w2 ⟨rfl,g',hm,hs⟩);go_end0;exact⟨rfl,_,hm,Hs.out.trans hs⟩
theorem mbr_any (h:Ma wB ms vp W g s) {L:Str} (h0:z.lb9[(g.ch % 2).toNat]?=some L) (hA:∀ W',W.grownBy W' none->StrsAt W' wB.heap.size (.slice A8 z.lb9.length d8) z.lb9)
  (hto:∀ W',W.grownBy W' none->Calls Tryz.prog 181 #[.pointer (some ⟨g.m,0,none⟩),.string ⟨L.toArray⟩] W' (MOut wB ms vp W' g (s.jump p L))):
  Calls Tryz.prog 119 #[.pointer (some ⟨g.m,0,none⟩),Ui z A7 d7 A8 d8] W (MOut wB ms vp W g (s.jump p L)):=by
 obtain⟨W1,hW1,hg1,hI⟩:=Vu W z A7 d7 A8 d8;obtain⟨i,hi⟩:∃ i:Nat,i=(g.ch % 2).toNat:=⟨_,rfl⟩
 have hb:bits .and .i64 g.ch 1=(i:Int):=by rw[Zks];omega
 rw[<-hi] at h0;obtain⟨A,c,e,m1,m2,m3,-⟩:=(hA W1 hg1).open_;obtain⟨t,gt,ot,ht,e2,hgt,htc,-⟩:=(hA W1 hg1).at_ (Le h0).1;rw[h0] at ht
 cases ht
 subst e2
 cases e
 rw[Nat.mul_one] at htc;have k7:W1.cell? ⟨W.heap.size,7,none⟩=some (.slice (some ⟨gt,ot,none⟩) z.lb9.length d8):=hI _ (Lb _ _) 7;have hl:=(Le h0).1;have m9:W1.cell? ⟨g.m,9,none⟩=some (.int .i64 g.ch):=(h.grow hg1).cell 9;have hg:=Lb W1 none;have HR:=hid (show ∀ W',W1.grownBy W' none->W'.cell? ⟨W.heap.size,7,none⟩=some (.slice (some ⟨gt,ot,none⟩) z.lb9.length d8)/\W'.cell? ⟨g.m,9,none⟩=some (.int .i64 g.ch)/\W'.cell? ⟨gt,ot+i,none⟩=some (.string ⟨L.toArray⟩) from fun W' hg=>⟨Zp hg k7,Zp hg m9,Zp hg htc⟩);have Ht:=hid (fun (W':World) (hg:W1.grownBy W' none)=>hto W' (Zb hg1 hg));have Hs:=hid (fun (W':World) (hg:W1.grownBy W' none)=>(Stp.refl W g).grow (Zb hg1 hg));clear h hA hto hI h0 hg1 hi;unfold Ui;go_enter Tryz.func119,Tryz.ntmps119;go_upto_region 1 with (fail)
 rw[<-hW1];clear hW1;go_region_law ((go_simp;go_at_call 181;first|(refine (Ht.out _ (Zf hg)).mono ?_;rintro e w3 ⟨rfl,g',hm,hs⟩;have Hm:=hid hm;have Hs2:=hid ((Hs.out _ (Zf hg)).trans hs);clear hm hs)|(refine (Ht.out _ hg).mono ?_;rintro e w3 ⟨rfl,g',hm,hs⟩;have Hm:=hid hm;have Hs2:=hid ((Hs.out _ hg).trans hs);clear hm hs)))
 all_goals (go_wp2_with fail;go_end0)
 all_goals exact⟨rfl,_,Hm.out,Hs2.out⟩
end
section
open Go.RowKit Go.Shelf
variable {wB:Bs} {lo ms:Nat} {vp:Value} {p:GProg} {W W':World} {g:SAd} {s:GM} {l:List GAct} {a:GAct} {z:GIns} {A7 A8:Option Addr} {d7 d8:Nat}
def Ent (f:Nat):Prop:=∀ args w,(callFunc f args).run Tryz.prog w=.ok (.enter f args) w
theorem Zum:Ent 110:=enters_of Tryz.func110 (by kernel_rfl) rfl
theorem Zun:Ent 111:=enters_of Tryz.func111 (by kernel_rfl) rfl
theorem Zuh:Ent 112:=enters_of Tryz.func112 (by kernel_rfl) rfl
theorem Zuj:Ent 113:=enters_of Tryz.func113 (by kernel_rfl) rfl
theorem Zro:Ent 114:=enters_of Tryz.func114 (by kernel_rfl) rfl
theorem Zul:Ent 115:=enters_of Tryz.func115 (by kernel_rfl) rfl
theorem Zrq:Ent 116:=enters_of Tryz.func116 (by kernel_rfl) rfl
theorem Zui:Ent 117:=enters_of Tryz.func117 (by kernel_rfl) rfl
theorem Zrp:Ent 118:=enters_of Tryz.func118 (by kernel_rfl) rfl
theorem ent_br:Ent 119:=enters_of Tryz.func119 (by kernel_rfl) rfl
theorem Zuk:Ent 120:=enters_of Tryz.func120 (by kernel_rfl) rfl
theorem ent_ret:Ent 121:=enters_of Tryz.func121 (by kernel_rfl) rfl
theorem Zur:∀ {h:GHp},(∀ o∈h,0<o.2.length)->h.length<=Ya h
 |[],_=>Ln _
 |o::h,hh=>by
  have h1:=Zur (h:=h) fun o ho=>hh o (by simp[ho])
  have h2:=hh o (by simp);simp only[Ya,List.map_cons,List.sum_cons,List.length_cons] at h1 ⊢;omega
def DoOk (wB:Bs) (ms:Nat) (vp:Value) (p:GProg) (W:World) (g:SAd) (s:GM) (z:GIns) (A7:Option Addr) (d7:Nat) (A8:Option Addr) (d8:Nat):Prop:=
 ∃ fn,Z6 doL (z.op:Int)=some (fnV fn)/\Ent fn/\∀ W',W.grownBy W' none->Calls Tryz.prog fn #[.pointer (some ⟨g.m,0,none⟩),Ui z A7 d7 A8 d8] W' (MOut wB ms vp W' g (s.doI p (decide (g.ch % 2=1)) z))
theorem mdo_any (E:StE wB lo ms vp p) (h:Ma wB ms vp W g s) (K:GMOk p s) (ha:s.acts=l++[a]) (hz:z=Yp p a.pt) (h7:StrsAt W wB.heap.size (.slice A7 z.args.length d7) z.args) (h8:StrsAt W wB.heap.size (.slice A8 z.lb9.length d8) z.lb9):DoOk wB ms vp p W g s z A7 d7 A8 d8:=by
 have hN:=E.ok;have hA:=K.acts a (by rw[ha];simp);obtain⟨f,y,x,vs,fs,hf,hy,hx,h6,-,-⟩:=hA.at_;have hzx:z=x:=hz.trans (Qj hf hy hx);obtain⟨l12,l13,l1,l7,l0,l14⟩:=Zjy hN hf hy hx;rw[<-hzx] at h6 l12 l13 l1 l7 l0 l14;have hcl:=hN.code hf hy;have hat:a.pt.2.2<=1000000:=by have:=(Le hx).1;omega
 have hs:=K.heap.size;have hwB:=h.chg.size;have H7:∀ W',W.grownBy W' none->∀ W'',W'.grownBy W'' none->StrsAt W'' wB.heap.size (.slice A7 z.args.length d7) z.args:=fun W' hg W'' hg'=>h7.below strR.keeps (Zk (Zb hg hg')) hwB
 have H8:∀ W',W.grownBy W' none->∀ W'',W'.grownBy W'' none->StrsAt W'' wB.heap.size (.slice A8 z.lb9.length d8) z.lb9:=fun W' hg W'' hg'=>h8.below strR.keeps (Zk (Zb hg hg')) hwB
 unfold DoOk GM.doI;rw[X1 ha]
 by_cases o1:z.op=1\/z.op=2
 ·rw[if_pos o1];obtain⟨g1,g2,-,-⟩:=Zqv hN hf hy hx (by rw[<-hzx];exact o1);refine⟨110,by rcases o1 with e|e<;>rw[e]<;>rfl,Zum,fun W' hg=>Zsn E (h.grow hg) ha hat hs (Nat.le_trans (Zur K.heap.pos) hs) ⟨g1,g2⟩⟩
 rw[if_neg o1]
 by_cases o3:z.op=3
 ·rw[if_pos o3];exact⟨111,by rw[o3];rfl,Zun,fun W' hg=>Zsp E (h.grow hg) ha hat⟩
 rw[if_neg o3]
 by_cases o4:z.op=4
 ·rw[if_pos o4];exact⟨112,by rw[o4];rfl,Zuh,fun W' hg=>Zse E (h.grow hg) ha hat⟩
 rw[if_neg o4]
 by_cases o5:z.op=5
 ·rw[if_pos o5];exact⟨113,by rw[o5];rfl,Zuj,fun W' hg=>Zsh E (h.grow hg) ha hat⟩
 rw[if_neg o5]
 by_cases o7:z.op=7
 ·rw[if_pos o7];have:=l7 o7;exact⟨114,by rw[o7];rfl,Zro,fun W' hg=>Zos E (h.grow hg) ha hat hs ⟨this.1,by omega⟩⟩
 rw[if_neg o7]
 by_cases o8:z.op=8
 ·rw[if_pos o8];exact⟨115,by rw[o8];rfl,Zul,fun W' hg=>Zsm E (h.grow hg) ha hat hs⟩
 rw[if_neg o8]
 by_cases o9:z.op=9
 ·rw[if_pos o9];exact⟨116,by rw[o9];rfl,Zrq,fun W' hg=>Zow E (h.grow hg) ha hat hs⟩
 rw[if_neg o9]
 by_cases o10:z.op=10
 ·rw[if_pos o10];obtain⟨q,hq,hl⟩:=Zfj hN hf hy hx (by rw[<-hzx];exact o10);rw[<-hzx] at hq hl;have h8:=hN.callArgs hf hy hx (by rw[<-hzx,o10];rfl);rw[<-hzx] at h8;exact⟨117,by rw[o10];rfl,Zui,fun W' hg=>Zsg E (h.grow hg) ha hq hl h8 (H7 W' hg)⟩
 rw[if_neg o10]
 by_cases o11:z.op=11
 ·rw[if_pos o11];have h8:=hN.callArgs hf hy hx (by rw[<-hzx,o11];rfl);rw[<-hzx] at h8
  exact⟨118,by rw[o11];rfl,Zrp,fun W' hg=>Zou E (h.grow hg) ha (fun e=>by
                rcases Zav hA z.a with e1|⟨e1,-⟩|⟨-,-,e1⟩
                ·rw[e1] at e;cases e
                ·omega
                ·exact e1) h8 (H7 W' hg)⟩
 rw[if_neg o11];have hto:∀ L,L∈z.lb9->(z.op=12\/z.op=13)->∀ W',W.grownBy W' none->∀ W'',W'.grownBy W'' none->Calls Tryz.prog 181 #[.pointer (some ⟨g.m,0,none⟩),.string ⟨L.toArray⟩] W'' (MOut wB ms vp W'' g (s.jump p L)):=fun L hL ho W' hg W'' hg'=>by
  obtain⟨f',y',c,y2,x2,j1,j2,j3,j4,j5,j6,j7,j8,-⟩:=Zqg hN E.snd hA (by rw[<-hz];exact ho) (l:=L) (by rw[<-hz];exact hL);rw[hf] at j1
  cases j1
  obtain⟨i,hi,e⟩:=List.mem_iff_getElem.1 hL;obtain⟨t,gt,ot,ht,-,-,-,htl⟩:=h8.at_ hi;have hLl:L.length<=9223372036854775807:=by
   rw[List.getElem?_eq_getElem hi,e] at ht
   cases ht
   exact htl
  exact mto_any E (h.grow (Zb hg hg')) ha hLl hf j2 j3 j4 j5 j6 j7 j8 (by have:=hN.code hf j4;omega)
 by_cases o12:z.op=12
 ·rw[if_pos o12];have h2:=l12 o12;have hi:(g.ch % 2).toNat<z.lb9.length:=by omega
  have hb:(if decide (g.ch % 2=1)=true then 1 else 0)=(g.ch % 2).toNat:=by
   by_cases e:g.ch % 2=1
   ·simp[e]
   ·have:g.ch % 2=0:=by omega
    simp[this]
  rw[hb,List.getElem?_eq_getElem hi];exact⟨119,by rw[o12];rfl,ent_br,fun W' hg=>mbr_any (h.grow hg) (Ld hi) (H8 W' hg) (hto _ (List.getElem_mem hi) (.inl o12) W' hg)⟩
 rw[if_neg o12]
 by_cases o13:z.op=13
 ·rw[if_pos o13];have h2:=l13 o13;have hi:0<z.lb9.length:=by omega
  rw[List.getElem?_eq_getElem hi];exact⟨120,by rw[o13];rfl,Zuk,fun W' hg=>Zsl (h.grow hg) (Ld hi) (H8 W' hg) (hto _ (List.getElem_mem hi) (.inr o13) W' hg)⟩
 rw[if_neg o13];have o14:z.op=14:=by omega
 rw[if_pos o14];refine⟨121,by rw[o14];rfl,ent_ret,fun W' hg=>Zvf E (h.grow hg) ha fun b l' e=>?_⟩;obtain⟨f,y,x,vs,fs,k1,k2,k3,-,-,-⟩:=(K.acts b (by rw[ha,e];simp)).at_;exact⟨f,y,x,k1,k2,k3,by have:=(Le k3).1;have:=hN.code k1 k2;omega⟩
end

/- The contract of sound. Conditions in it. -/
import Derived.Test.YtlcogjllnbfneaaGreatESnp
set_option maxHeartbeats 4000000
set_option maxRecDepth 100000
set_option linter.all false
namespace Go.Proofs.YtlcogjllnbfneaaGreat
open Lib(hid)
open Go.RowKit Go.Shelf
attribute [local go_sem] Oper.semAt_some
theorem Zii (p:GProg) (vp:Value) (B:Nat) (w:World) (hB:B<=w.heap.size) (h:ProgAt w B vp p):
  Calls Tryz.prog 11 #[.agg #[vp]] w fun e w'=>e=.returned (X9 (Y5 p))/\w.grownBy w' none:=by
 have hP:=h;obtain⟨A,c,rfl,hm,hlc,hcm,hA⟩:=h.open_;obtain⟨w1,hw1⟩:∃ w1:World,w1=(w.alloc (.cells #[.slice A p.length c] 47)).alloc (.cells #[.int .u8 0,.int .i64 0,.int .i64 0,.int .i64 0] 43):=⟨_,rfl⟩
 have hs1:w1.heap.size=w.heap.size+2:=by rw[hw1];simp
 have hg1:w.grownBy w1 none:=by rw[hw1];exact Zd (Lc w _ none) _
 have hp1:w1.heap[w.heap.size]?=some (.cells #[.slice A p.length c] 47 (0,0)):=by rw[hw1];exact Zc (La w _) _
 have hr1:w1.heap[w.heap.size+1]?=some (.cells #[.int .u8 0,.int .i64 0,.int .i64 0,.int .i64 0] 43 (0,0)):=by
  have:=La (w.alloc (.cells #[.slice A p.length c] 47)) (.cells #[.int .u8 0,.int .i64 0,.int .i64 0,.int .i64 0] 43);simp only[World.size_alloc] at this;rw[hw1];exact this
 have hcall:=Zgl p (.slice A p.length c) B w1 (by omega) (hP.below funR.keeps (Zk hg1) hB);have Hg1:=hid hg1;have HP:=hid hP;have Hp1:=hid hp1;have Hr1:=hid hr1;obtain⟨y1,_⟩:=Za hp1;clear h hA hP hg1 hp1 hr1;refine (callsIn_wide (n:=8)).1 ?_;refine callsIn_of_wp_marks Tryz.func11 rfl trivial ?_ rfl;refine wpIn_wide.2 ?_;simp only[Tryz.ntmps11,List.size_toArray,List.length_cons,List.length_nil,Nat.reduceAdd,Nat.reduceSub,Array.replicate_succ,Array.replicate_zero,List.push_toArray,List.append_toArray,List.nil_append,List.cons_append];go_upto_region 1 with (fail)
 rw[<-hw1];clear hw1
 cases hnc:Yc p with
 |mk r pt=>
  obtain⟨p1,p2,p3⟩:=pt;have Hnc:=hid hnc;rw[hnc] at hcall;simp only[X9,Uo] at hcall;clear hnc
  by_cases h0:r=0
  ·subst h0;have HN:=hid (show NOk p from (Zkb (by rw[Hnc.out])).2);have Hnc0:=hid (show (Yc p).1=0 by rw[Hnc.out]);clear Hnc;go_upto_region 2 with (first|(go_at_call 56;refine hcall.mono ?_;rintro e w2 ⟨rfl,hg2⟩))
   have hs2:=hg2.size;have h2:=(hg2.block _ (by omega) (by simp)).trans Hr1.out;have h1:=(hg2.block _ (by omega) (by simp)).trans Hp1.out;have hgw2:=Zb Hg1.out hg2;go_upto_region 5 with (fail)
   have hpn:=HN.out.funcs;obtain⟨W0,hW0⟩:∃ W0:World,W0=(w2.alloc (.cells #[.int .u8 ((0:Nat):Int),.int .i64 p1,.int .i64 p2,.int .i64 p3] 43)).alloc (.cells #[.slice none 0 0] 95):=⟨_,rfl⟩
   have hg0:w2.grownBy W0 none:=by rw[hW0];exact Zd (Lc w2 _ none) _
   have hs0:W0.heap.size=w2.heap.size+2:=by rw[hW0];simp
   have hL0:W0.heap[w2.heap.size+1]?=some (.cells #[.slice none 0 0] 95 (0,0)):=by
    have:=La (w2.alloc (.cells #[.int .u8 ((0:Nat):Int),.int .i64 p1,.int .i64 p2,.int .i64 p3] 43)) (.cells #[.slice none 0 0] 95);simp only[World.size_alloc] at this;rw[hW0];exact this
   have z1:=(hg0.block _ (by omega) (by simp)).trans h1;have hI0:CkI w p (w.heap.size+1) (w2.heap.size+1) 0 W0:=
    ⟨Zk (Zb hgw2 hg0),(hg0.block _ (by omega) (by simp)).trans h2,⟨_,[],hL0,World.ownsRow_nil _ _ _ _,rfl,fun i x f hx=>by simp at hx⟩,by omega,by omega⟩
   have hI0':=fun n:Nat=>hI0.grow (Zg (Lb W0 none) n)
   obtain⟨y2,_⟩:=Za z1;have HI0:=hid hI0';rw[show (((0:Nat):Int))=0 from rfl] at hW0;rw[<-hW0];clear hW0 hg0 hs0 hL0 z1 hI0 hI0' h1 h2 y1;go_quiet (fail);go_wp2_with fail;clear y2;go_loopw [32,5,6] (fun s32 s5 s6 wr=>∃ k:Nat,k<=p.length/\s32=.int .i64 k/\s5=.int .i64 (Ka p k:Nat)/\s6=.int .i64 (Q0 p k)/\Hid (CkI w p (w.heap.size+1) (w2.heap.size+1) k wr)) (fun s32 _ _ _=>p.length-(intOf s32).toNat)
   case atStart=>exact⟨0,Ln _,rfl,by rw[Znh];rfl,by rw[Zds],HI0.out _⟩
   case round=>
    obtain⟨k,hkl,rfl,rfl,rfl,hI⟩:=hrel;clear HI0
    by_cases hl:k<p.length
    ·have hlow:=hI.out.low;have hPr:=HP.out;obtain⟨f,bF,offF,hf,hAe,hbF,hrF⟩:=SlAt.at_ hPr hl;subst hAe;obtain⟨A1,d1,A2,d2,hfn,m1,m2,e0,e1,e2⟩:=Yh hrF;have hfnW:=hfn.below hlow hB;replace e0:=cur hlow (by omega) e0;replace e1:=cur hlow (by omega) e1;replace e2:=cur hlow (by omega) e2;have hLl:=hI.out.lt;have hl2:=hI.out.l2;obtain⟨v,ps,q1,q2,q3,q4⟩:=hI.out.row;have hvl:=q2.lt;obtain⟨A8,d8,rfl,_,_,_,_⟩:=Z5 q2;obtain⟨j1,j2⟩:=Za q1;have x1:wr.cell? ⟨w2.heap.size+1,0,none⟩=some (.slice A8 k d8):=j1 0;have x2:wr.frozen? ⟨w2.heap.size+1,0,none⟩=false:=j2 0;have hfok:=HN.out.fok hf;have hszl:=hlow.size;obtain⟨wF,hwF⟩:∃ wF:World,wF=wr.alloc (.cells #[.string ⟨f.name.toArray⟩,.slice A1 f.params.length d1,.slice A2 f.bk9.length d2] 37):=⟨_,rfl⟩
     have hgF:wr.grownBy wF none:=by rw[hwF];exact Lc _ _ _
     have hsF:wF.heap.size=wr.heap.size+1:=by rw[hwF];simp
     have hbx:wF.heap[wr.heap.size]?=some (.cells #[.string ⟨f.name.toArray⟩,.slice A1 f.params.length d1,.slice A2 f.bk9.length d2] 37 (0,0)):=by rw[hwF];exact La _ _
     have hof:∀ W':World,wr.grownBy W' none->Calls Tryz.prog 57 #[.agg #[.string ⟨f.name.toArray⟩,.slice A1 f.params.length d1,.slice A2 f.bk9.length d2]] W' fun e w'=>Ztp B f W' e w':=
      fun W' hg=>Ztj f _ _ B W' (by have:=hg.size;omega) (hfnW.below (Zk hg) (by omega)) hfok.of hfok.ne
     obtain⟨u1,_⟩:=Za hbx;have v0:wF.cell? ⟨wr.heap.size,0,none⟩=some (.string ⟨f.name.toArray⟩):=u1 0;have v1:wF.cell? ⟨wr.heap.size,1,none⟩=some (.slice A1 f.params.length d1):=u1 1;have v2:wF.cell? ⟨wr.heap.size,2,none⟩=some (.slice A2 f.bk9.length d2):=u1 2;have x3:wF.cell? ⟨w2.heap.size+1,0,none⟩=some (.slice A8 k d8):=(Lj (hgF.block _ hLl (by simp))).trans x1;have x4:wF.frozen? ⟨w2.heap.size+1,0,none⟩=false:=(World.frozen?_of_block (hgF.block _ hLl (by simp))).trans x2;have HgF:=hid hgF;have Hq:=hid (show _/\_/\_/\_ from ⟨q1,q2,q3,q4⟩);have Hbx:=hid hbx;have Hf:=hid hf;have Hfn:=hid hfn;have Hfok:=hid hfok;clear hfnW hPr hrF q1 q2 q3 q4 j1 j2 hgF hbx hf hfn hfok hlow;have hQ:∀ i,Qv (w2.heap.size+1) (.slice A8 k d8) i->B<=i/\i<wF.heap.size:=fun i e=>by
      rcases e with e|e
      ·omega
      ·have:=hvl i e;omega
     go_upto_region 9 with (fail)
     rw[<-hwF];clear hwF e0 e1 e2 x1 x2;go_cut [32] from 32 to 79 (fun s32 wx=>s32=.int .i64 k/\Hid (CkI w p (w.heap.size+1) (w2.heap.size+1) (k+1) wx)/\Hid (wx.heap[wr.heap.size]?=some (.cells #[.string ⟨f.name.toArray⟩,.slice A1 f.params.length d1,.slice A2 f.bk9.length d2] 37 (0,0))))
     case first=>
      have hnLb:wr.heap.size≠w2.heap.size+1:=by omega
      go_region_law (first
                     |(refine Zpo rfl (.tmp 36) (.tmp 39) 95 rfl (w2.heap.size+1+1) 96 (.pointer none) 8 Tryz.underlying95 (by kernel_rfl) rfl (.slice A8 k d8) (ps.map Zlp) k rfl ((Hq.out.2.1.kept Hg4.out (by cases A8<;>simp[Value.ownBlock])).alloc _) w4.heap.size (.pointer (some ⟨b,0,none⟩)) rfl rfl ((Za (La w4 _)).1 0) (by unfold maxLen;omega) (by omega) (by have:=Hg4.out.size;simp;omega) ?_;intro G cap w5 ho5 hg5 hor5;
                       have hne8:some (w2.heap.size+1)≠(Value.slice A8 k d8).ownBlock:=fun e=>by have:=(hvl _ e.symm).1;omega;
                       have hne9:some wr.heap.size≠(Value.slice A8 k d8).ownBlock:=fun e=>by have:=(hvl _ e.symm).2;omega;
                       have hsz4:=Hg4.out.size;
                       have x8:w5.cell? ⟨w2.heap.size+1,0,none⟩=some (.slice A8 k d8):=(Lj (hg5.block _ (by simp;omega) hne8)).trans (hcz _);
                       have x9:w5.frozen? ⟨w2.heap.size+1,0,none⟩=false:=(World.frozen?_of_block (hg5.block _ (by simp;omega) hne8)).trans (hfz _);
                       have hbx5:=(hg5.block wr.heap.size (by have:=Ze Hbx4.out;simp;omega) hne9).trans ((Below.heap_alloc w4 _ _ (Ze Hbx4.out)).trans Hbx4.out);
                       obtain⟨u3,_⟩:=Za hbx5;
                       have hu3:∀ (u:Value) (i:Nat),(w5.setCell ⟨w2.heap.size+1,0,none⟩ u).cell? ⟨wr.heap.size,i,none⟩= #[Value.string ⟨f.name.toArray⟩,.slice A1 f.params.length d1,.slice A2 f.bk9.length d2][i]?:=fun u i=>(Lj (Below.heap_setCell w5 _ u wr.heap.size hnLb)).trans (u3 i);
                       have Hbx5:=hid hbx5;have Hg5:=hid hg5;have Ho5:=hid ho5;clear hbx5 hg5 ho5)
                     |(go_simp;go_at_call 57;refine (hof _ (by first|exact HgF.out|exact Y4 HgF.out)).mono ?_;rintro e w4 ⟨b,rfl,hbf,hbl,hb4⟩;
                       have hg4:wr.grownBy w4 none:=Zb (by first|exact HgF.out|exact Y4 HgF.out) (Zj hb4);
                       have x5:w4.cell? ⟨w2.heap.size+1,0,none⟩=some (.slice A8 k d8):=(Lj (hb4.block _ (by simp;omega))).trans x3;
                       have x6:w4.frozen? ⟨w2.heap.size+1,0,none⟩=false:=(World.frozen?_of_block (hb4.block _ (by simp;omega))).trans x4;
                       have hbx4:=(hb4.block wr.heap.size (by simp;omega)).trans Hbx.out;
                       obtain⟨u2,_⟩:=Za hbx4;
                       have hsz4:=hg4.size;have c5:w4.cell? ⟨w2.heap.size+1,0,none⟩=some (.slice A8 k d8):=x5;have hfz:∀ o:Obj,(w4.alloc o).frozen? ⟨w2.heap.size+1,0,none⟩=false:=fun o=>(World.frozen?_of_block (Below.heap_alloc w4 o _ (by show w2.heap.size+1<w4.heap.size;omega))).trans x6;
                       have hcz:∀ o:Obj,(w4.alloc o).cell? ⟨w2.heap.size+1,0,none⟩=some (.slice A8 k d8):=fun o=>(Lj (Below.heap_alloc w4 o _ (by show w2.heap.size+1<w4.heap.size;omega))).trans x5;
                       have hu2:∀ (o:Obj) (i:Nat),(w4.alloc o).cell? ⟨wr.heap.size,i,none⟩= #[Value.string ⟨f.name.toArray⟩,.slice A1 f.params.length d1,.slice A2 f.bk9.length d2][i]?:=fun o i=>(Lj (Below.heap_alloc w4 o _ (by show wr.heap.size<w4.heap.size;have:=hb4.size;simp at this;omega))).trans (u2 i);
                       have Hbx4:=hid hbx4;have Hbf:=hid hbf;have Hg4:=hid hg4;clear hbx4 hbf hg4))
      all_goals (go_wp2_with fail;go_meet)
      all_goals exact⟨rfl,hid (hI.out.push Hq.out.1 Hq.out.2.1 Hq.out.2.2.1 Hq.out.2.2.2 (Zd Hg4.out _) Hf.out (fun w'' h''=>Hbf.out (Qv (w2.heap.size+1) (.slice A8 k d8)) (fun i _ e=>hQ i e) w'' ((Agr.grown (Lc w4 _ none) (fun r e=>by cases e)).trans h'' (fun _ _ e=>e))) Hg5.out Ho5.out (hor5.imp id fun e=>Nat.le_of_eq e.symm)),hid ((Below.heap_setCell w5 _ _ wr.heap.size hnLb).trans Hbx5.out)⟩
     case rest=>
      obtain⟨rfl,hJ,hbw⟩:=hcut;have hbV:=HN.out.varsB k hkl;have hbF2:=HN.out.fldsB k hkl;have hkp:=hpn.2;have hP8:=HN.out.params Hf.out;have hbl:=HN.out.bk9 Hf.out;have hclen:=K5 Hfok.out.code;obtain⟨t1,_⟩:=Za hbw.out;have w1':wc.cell? ⟨wr.heap.size,1,none⟩=some (.slice A1 f.params.length d1):=t1 1;have w2':wc.cell? ⟨wr.heap.size,2,none⟩=some (.slice A2 f.bk9.length d2):=t1 2;obtain⟨V,hV⟩:∃ V:Nat,V=Ka p k:=⟨_,rfl⟩
      obtain⟨Fl,hFl⟩:∃ Fl:Int,Fl=Q0 p k:=⟨_,rfl⟩
      rw[<-hV] at hbV;rw[<-hFl] at hbF2;rw[<-hV,<-hFl];have Hv:=hid hV;have Hfl:=hid hFl;have HclenX:=hid hclen;clear hI hof v0 v1 v2 u1 x3 x4 Hq hvl hQ hbw t1 hV hFl hclen HgF Hbx;obtain⟨A2',d2',hAe2,_,_,_,hBl⟩:=Hfn.out.bk9.open_;simp only[Value.slice.injEq] at hAe2;obtain⟨rfl,_,rfl⟩:=hAe2;have HBl:=hid hBl;clear hBl;go_wp2_with fail;clear w1' w2';go_loopw [49,5,6] (fun s49 s5 s6 wr=>∃ j:Nat,j<=f.bk9.length/\s49=.int .i64 j/\s5=.int .i64 ((V:Int)+f.params.length+Jo (Yk f j))/\s6=.int .i64 (Fl+Ur (Yk f j))/\Hid (CkI w p (w.heap.size+1) (w2.heap.size+1) (k+1) wr)) (fun s49 _ _ _=>f.bk9.length-(intOf s49).toNat)
      case atStart=>exact⟨0,Ln _,rfl,by simp[Zdl,Jo],by simp[Zdl,Ur],hJ⟩
      case round=>
       obtain⟨j,hjl,rfl,rfl,rfl,hJ2⟩:=hrel;clear hJ
       by_cases hlj:j<f.bk9.length
       ·obtain⟨y,b1,off1,hy,hA2e,hbB1,hr1⟩:=HBl.out.at_ hlj;subst hA2e;obtain⟨A5,d5,hyy,m5,g0,g1⟩:=Yg hr1;have hlow2:=hJ2.out.low;have hsz2:=hlow2.size;have hbn1:b1≠wr.heap.size:=by omega
        have hbl1:b1<wr.heap.size:=by omega
        replace g0:=cur hlow2 (by omega) g0;replace g1:=cur hlow2 (by omega) g1;have h9:=hid (hJ2.out.grow (Lc wr (.cells #[.string ⟨y.label.toArray⟩,.slice A5 y.code.length d5] 39) none));have Hyy:=hid hyy;have Hy:=hid hy;have hpb:=HN.out.partB Hf.out hy;have Hpb:=hid hpb;clear hr1 hyy hy hlow2 hpb;go_wp2_with fail;go_loopw [56,5,6] (fun s56 s5 s6 wr=>∃ i:Nat,i<=y.code.length/\s56=.int .i64 i/\s5=.int .i64 ((V:Int)+f.params.length+Jo (Yk f j++y.code.take i))/\s6=.int .i64 (Fl+Ur (Yk f j++y.code.take i))/\Hid (CkI w p (w.heap.size+1) (w2.heap.size+1) (k+1) wr)) (fun s56 _ _ _=>y.code.length-(intOf s56).toNat)
        case atStart=>exact⟨0,Ln _,rfl,by simp,by simp,h9⟩
        case round=>
         obtain⟨i,hil,rfl,rfl,rfl,hJ3⟩:=hrel;clear hJ2 h9 g0 g1 hbn1 hbl1
         by_cases hli:i<y.code.length
         ·obtain⟨z,b3,off3,hz,hA5e,hbB3,hr3⟩:=Hyy.out.code.at_ hli;subst hA5e;obtain⟨A6,d6,A7,d7,hzz,m6,m7,g0,g1,g2,g3,g4,g5,g6,g7⟩:=Yw hr3;have hlow3:=hJ3.out.low;have hsz3:=hlow3.size;have hbn3:b3≠wr.heap.size:=by omega
          have hbl3:b3<wr.heap.size:=by omega
          replace g0:=cur hlow3 (by omega) g0;replace g1:=cur hlow3 (by omega) g1;replace g2:=cur hlow3 (by omega) g2;replace g3:=cur hlow3 (by omega) g3;replace g4:=cur hlow3 (by omega) g4;replace g5:=cur hlow3 (by omega) g5;replace g6:=cur hlow3 (by omega) g6;replace g7:=cur hlow3 (by omega) g7;have h10:=hid (hJ3.out.grow (Lc wr (.cells #[.int .u8 z.op,.string ⟨z.dst.toArray⟩,.string ⟨z.a.toArray⟩,.string ⟨z.b.toArray⟩,.int .i64 z.n,.string ⟨z.fn.toArray⟩,.slice A6 z.args.length d6,.slice A7 z.lb9.length d7] 25) none));have hcm:=Zua (pre:=Yk f j) hz;have hfm:=Zuo (pre:=Yk f j) hz;have hpi:=Hpb.out i;have hfz:=HN.out.flds Hf.out Hy.out hz;obtain⟨C,hC⟩:∃ C:Nat,C=Jo (Yk f j++y.code.take i):=⟨_,rfl⟩
          obtain⟨D,hD⟩:∃ D:Int,D=Ur (Yk f j++y.code.take i):=⟨_,rfl⟩
          rw[<-hC] at hcm hpi ⊢;rw[<-hD] at hfm hpi ⊢;have Hcm:=hid hcm;have Hfm:=hid hfm;clear hr3 hz hzz hlow3 hC hD hcm hfm
          rcases hd:z.dst with _|⟨d0,ds⟩
          ·rw[hd] at g1 h10;have Hc2:=hid (show Jo (Yk f j++y.code.take (i+1))=C+0 by rw[Hcm.out,hd];rfl)
           by_cases o1:z.op=1
           ·rw[o1] at g0 h10;have Hf2:=hid (show Ur (Yk f j++y.code.take (i+1))=D+z.n by rw[Hfm.out,Vf (.inl o1)]);rw[Vf (.inl o1)] at hfz;clear hcall;go_wp2;go_roundw
            case rel=>exact⟨i+1,by omega,by go_num,by rw[Hc2.out]<;>congr 1<;>push_cast<;>omega,by rw[Hf2.out]<;>congr 1<;>omega,h10⟩
            case measure=>simp[intOf];omega
           ·by_cases o2:z.op=2
            ·rw[o2] at g0 h10;have Hf2:=hid (show Ur (Yk f j++y.code.take (i+1))=D+z.n by rw[Hfm.out,Vf (.inr o2)]);rw[Vf (.inr o2)] at hfz;clear hcall;go_wp2;go_roundw
             case rel=>exact⟨i+1,by omega,by go_num,by rw[Hc2.out]<;>congr 1<;>push_cast<;>omega,by rw[Hf2.out]<;>congr 1<;>omega,h10⟩
             case measure=>simp[intOf];omega
            ·have o3:((z.op:Int) == 1)=false:=beq_eq_false_iff_ne.2 (by omega);have o4:((z.op:Int) == 2)=false:=beq_eq_false_iff_ne.2 (by omega);have Hf2:=hid (show Ur (Yk f j++y.code.take (i+1))=D by rw[Hfm.out,Zin o1 o2,Int.add_zero]);clear hcall;go_wp2;go_roundw
             case rel=>exact⟨i+1,by omega,by go_num,by rw[Hc2.out]<;>congr 1<;>push_cast<;>omega,by rw[Hf2.out],h10⟩
             case measure=>simp[intOf];omega
          ·rw[hd] at g1 h10;have Hc2:=hid (show Jo (Yk f j++y.code.take (i+1))=C+1 by rw[Hcm.out,hd];rfl)
           by_cases o1:z.op=1
           ·rw[o1] at g0 h10;have Hf2:=hid (show Ur (Yk f j++y.code.take (i+1))=D+z.n by rw[Hfm.out,Vf (.inl o1)]);rw[Vf (.inl o1)] at hfz;clear hcall;go_wp2;go_roundw
            case rel=>exact⟨i+1,by omega,by go_num,by rw[Hc2.out]<;>congr 1<;>push_cast<;>omega,by rw[Hf2.out]<;>congr 1<;>omega,h10⟩
            case measure=>simp[intOf];omega
           ·by_cases o2:z.op=2
            ·rw[o2] at g0 h10;have Hf2:=hid (show Ur (Yk f j++y.code.take (i+1))=D+z.n by rw[Hfm.out,Vf (.inr o2)]);rw[Vf (.inr o2)] at hfz;clear hcall;go_wp2;go_roundw
             case rel=>exact⟨i+1,by omega,by go_num,by rw[Hc2.out]<;>congr 1<;>push_cast<;>omega,by rw[Hf2.out]<;>congr 1<;>omega,h10⟩
             case measure=>simp[intOf];omega
            ·have o3:((z.op:Int) == 1)=false:=beq_eq_false_iff_ne.2 (by omega);have o4:((z.op:Int) == 2)=false:=beq_eq_false_iff_ne.2 (by omega);have Hf2:=hid (show Ur (Yk f j++y.code.take (i+1))=D by rw[Hfm.out,Zin o1 o2,Int.add_zero]);clear hcall;go_wp2;go_roundw
             case rel=>exact⟨i+1,by omega,by go_num,by rw[Hc2.out]<;>congr 1<;>push_cast<;>omega,by rw[Hf2.out],h10⟩
             case measure=>simp[intOf];omega
         ·have hi:i=y.code.length:=by omega
          subst hi;have Hct:=hid (Jp Hy.out);rw[List.take_length];go_wp2;go_roundw
          case rel=>exact⟨j+1,by omega,by go_num,by rw[Hct.out],by rw[Hct.out],hJ3⟩
          case measure=>simp[intOf];omega
       ·have hj:j=f.bk9.length:=by omega
        subst hj;have Hs1:=hid (Zei Hf.out);have Hs2:=hid (Zdr Hf.out);go_wp2;go_roundw
        case rel=>exact⟨k+1,by omega,by go_num,by rw[Hs1.out,<-Hv.out];congr 1;push_cast;omega,by rw[Hs2.out,<-Hfl.out],hJ2⟩
        case measure=>simp[intOf];omega
    ·have hk:k=p.length:=by omega
     subst hk;have hlow:=hI.out.low;have hLl:=hI.out.lt;have hl2:=hI.out.l2;have hres:=hI.out.res;obtain⟨v,ps,q1,q2,q3,q4⟩:=hI.out.row;obtain⟨A8,d8,rfl,_,_,_,_⟩:=Z5 q2;have hbod:∀ (i x:Nat) (f:GFun),ps[i]?=some x->p[i]?=some f->Body wr wr.heap.size x f:=fun i x f hx hf=>q4 i x f hx hf wr ⟨Lf _,fun _ _ _=>rfl⟩
     rw[Zpp,Zof];go_wp2_with (go_at_call 58;refine (Ztd _).mono ?_;rintro e w' ⟨rfl,rfl⟩);have hownL:=q2.lt;have Hbod:=hid hbod;have Hq1:=hid q1;have Hq2:=hid q2;have Hres:=hid hres;have HI:=hid hI;clear hbod q1 q2 q4 hres hI hlow hcall;have hOI:OwnFrom wr.heap.size (fun (pre:List Zbg) (W:World)=>wr.grownBy W none/\∀ r∈pre,Jn p r.1=none):=fun pre W W' row hs hg hr=>⟨Y3 hs.1 hg (fun r e=>(hr r e).1),hs.2⟩
     have hOX:∀ c:Code,OwnFrom wr.heap.size (fun (pre:List Zbg) (W:World)=>c=.ret/\∃ (ys:List Zbg) (r:Zbg) (pt:GPt),pre=ys++[r]/\(∀ r'∈ys,Jn p r'.1=none)/\Jn p r.1=some pt/\W.heap[w.heap.size+1]?=some (.cells (Uo (r.1,pt)) 43 (0,0))/\wr.grownBy W (some (w.heap.size+1))):=fun c pre W W' row hs hg hr=>by
      obtain⟨h1,ys,r,pt,h2,h3,h4,h5,h6⟩:=hs;exact⟨h1,ys,r,pt,h2,h3,h4,(hg.block _ (Ze h5) (fun e=>by have:=(hr _ e.symm).1;omega)).trans h5,Y3 h6 hg (fun r e=>(hr r e).1)⟩
     refine (wpIn_wide (n:=8)).1 (wpIn_rangeFunc_ownH rfl (by omega) (gf:=89) (lb:= #[]) rfl trivial (enters_of Tryz.func89 (by kernel_rfl) rfl)
                                  (Zmv 7 (by omega) (fun _ _=>True) wr) (fun _ _=>trivial) (fun _ _ _ _ _ _ _ _=>trivial) (Below.refl _ _) (fun _=>rfl)
                                  (fun (pre:List Zbg) (W:World)=>wr.grownBy W none/\∀ r∈pre,Jn p r.1=none)
                                  (fun c pre W=>c=.ret/\∃ (ys:List Zbg) (r:Zbg) (pt:GPt),pre=ys++[r]/\(∀ r'∈ys,Jn p r'.1=none)/\Jn p r.1=some pt/\W.heap[w.heap.size+1]?=some (.cells (Uo (r.1,pt)) 43 (0,0))/\wr.grownBy W (some (w.heap.size+1)))
                                  hOI hOX ⟨Lb _ _,fun r hr=>by cases hr⟩
                                  (fun x a' _=>a'={ tmps:= #[.agg #[.slice A p.length c],.pointer (some ⟨w.heap.size,0,none⟩),.pointer (some ⟨w.heap.size+1,0,none⟩),.pointer (some ⟨w2.heap.size,0,none⟩),.pointer (some ⟨w2.heap.size+1,0,none⟩),.int .i64 (Kc p:Nat),.int .i64 (Jj p),undef,u8,undef,u10,undef,u12,.int .u8 x.1,.func (.func (Zdi x.1)) #[] #[],undef,undef,undef,undef,undef,.agg #[.slice A p.length c],.agg #[.int .u8 0,.int .i64 p1,.int .i64 p2,.int .i64 p3],.pointer (some ⟨w2.heap.size,0,none⟩),.int .u8 0,.bool false,undef,.pointer (some ⟨w.heap.size,0,none⟩),.slice A p.length c,.int .i64 p.length,.pointer (some ⟨w.heap.size,0,none⟩),.slice A p.length c,.int .i64 p.length,.int .i64 p.length,.bool false,u34,u35,u36,u37,u38,u39,u40,u41,u42,u43,u44,u45,u46,u47,u48,u49,u50,u51,u52,u53,u54,u55,u56,u57,u58,u59,u60,u61,u62,u63,u64,u65,u66,u67,u68,u69,u70,u71,u72,u73,u74,u75,u76,u77,u78,u79,.func (.func 89) #[] #[],.int .u8 x.1,.func (.func (Zdi x.1)) #[] #[],undef,undef,undef,undef,undef,undef,undef,undef,undef,undef,undef,undef,undef,undef,undef,undef,undef,undef,undef,undef,undef,undef,undef,undef,undef,undef,undef,undef,undef,undef],defers:=[] })
                                  (fun x a' _ X Y row hs _ _=>hs) ?assign ?body ?done ?stop)
     case assign=>
      rintro l pre ⟨r,hr⟩ W K hI9 hK;simp only[encX,encR];gi_wp2;exact hK _ _ ((Vd (Lb W none) (fun r e=>by cases e)).from _) trivial hI9 rfl
     case body=>
      rintro l pre ⟨r,hr⟩ a' W hl hrl hI9 rfl hlt;obtain⟨hg9,hno⟩:=hI9;have hask:∀ (i x:Nat) (f:GFun) (W':World),ps[i]?=some x->p[i]?=some f->W.grownBy W' none->Calls Tryz.prog (Zdi r) #[.pointer (some ⟨x,0,none⟩)] W' fun e w'=>e=.returned (U9 (U3 f r))/\Below W'.heap.size W' w':=fun i x f W' hx hf hg=>
       ask_any r hr f x wr.heap.size W' ((Hbod.out i x f hx hf).below (Zk (Zb hg9 hg)) (Lf _)) (Nat.le_trans hg9.size hg.size) (HN.out.fok hf)
      have eg:=Zob r hr;obtain⟨M,hM⟩:∃ M,M=Zdi r:=⟨_,rfl⟩
      simp only[<-hM];rw[<-hM] at hask eg;have hsz9:=hg9.size;have hL9:=(hg9.block _ hLl (by simp)).trans Hq1.out;have hR9:=(hg9.block _ (by omega) (by simp)).trans Hres.out;have ho9:=Hq2.out.kept hg9 (by cases A8<;>simp[Value.ownBlock]);obtain⟨l1,l2⟩:=Za hL9;have Hask:=hid hask;have HR9:=hid hR9;have Ho9:=hid ho9;have Hno:=hid hno;have Hg9:=hid hg9;have c9:W.cell? ⟨w2.heap.size+1,0,none⟩=some (.slice A8 p.length d8):=l1 0;clear hM hask hR9 ho9 hL9 l1 l2 hno hg9 hOI hOX;gi_wp2_with fail;gi_loopw [85] (fun s85 wi=>∃ i:Nat,i<=p.length/\s85=.int .i64 i/\Hid (W.grownBy wi none)/\Hid (∀ j,j<i->∀ f,p[j]?=some f->U3 f r=none)) (fun s85 _=>p.length-(intOf s85).toNat)
      case atStart=>exact⟨0,Ln _,rfl,Lb _ _,fun j hj=>by omega⟩
      case round=>
       obtain⟨i,hil,rfl,hgi,hN⟩:=hrel;clear c9
       by_cases hli:i<p.length
       ·obtain⟨f,hf⟩:∃ f,p[i]?=some f:=⟨_,Ld hli⟩
        obtain⟨x,hx⟩:∃ x,ps[i]?=some x:=⟨_,Ld (by omega)⟩
        have hoi:=Ho9.out.kept hgi.out (by cases A8<;>simp[Value.ownBlock]);obtain⟨A9,d9,e9,_,_,h0,h1⟩:=Z5 hoi;simp only[Value.slice.injEq] at e9;obtain⟨rfl,_,rfl⟩:=e9;obtain⟨g8,rfl⟩:∃ g8,A8=some ⟨g8,0,none⟩:=by
         cases A8 with
         |none=>have:=(h0 rfl).1;omega
         |some a=>obtain⟨e4,_,_⟩:=h1 a rfl;exact⟨a.block,by rw[e4]⟩
        have hxi:wr.cell? ⟨g8,i,none⟩=some (.pointer (some ⟨x,0,none⟩)):=by
         have:=hoi.cellAt i (by omega);rw[this,List.getElem?_map,hx];rfl
        have hcall:=Hask.out i x f wr hx hf hgi.out;have Hf:=hid hf;have hszi:=hgi.out.size;clear hoi h0 h1 hf hx
        cases hres:U3 f r with
        |none=>
         rw[hres] at hcall;simp only[U9,Option.getD_none,Option.isSome_none] at hcall;have Hres9:=hid hres;clear hres;gi_wp2_with (refine⟨trivial,?_⟩;refine (CallsIn.inRound l (callsIn_wide.2 hcall)).mono ?_;rintro e w' ⟨rfl,hb'⟩)
         exact⟨⟨i+1,by omega,by go_num,hid (Zb hgi.out (Zj hb')),hid (fun j hj f' hf'=>by
                                 by_cases e:j=i
                                 ·subst e
                                  rw[Hf.out] at hf'
                                  cases hf'
                                  exact Hres9.out
                                 ·exact hN.out j (by omega) f' hf')⟩,by simp[intOf];omega⟩
        |some q=>
         obtain⟨qb,qi⟩:=q;rw[hres] at hcall;simp only[U9,Option.getD_some,Option.isSome_some] at hcall;have Hsome:=hid (Ztk hN.out Hf.out hres);clear hres;gi_wp2_with (refine⟨trivial,?_⟩;refine (CallsIn.inRound l (callsIn_wide.2 hcall)).mono ?_;rintro e w' ⟨rfl,hb'⟩;have hR10:=(hb'.block _ (by omega)).trans ((hgi.out.block _ (by omega) (by simp)).trans HR9.out);obtain⟨r1,r2⟩:=Za hR10);have hgT:W.grownBy w' none:=Zb hgi.out (Zj hb');refine⟨((Vd hgT (fun r e=>by cases e)).trans (Ky _ _ _ _ _ _ _ _ _)).from _,rfl,pre,⟨r,hr⟩,_,rfl,Hno.out,Hsome.out,?_,?_⟩
         ·have h99:=Zcg hR10 (.int .u8 r) (.int .i64 i) (.int .i64 qb) (.int .i64 qi);simp only[Uo];exact h99
         ·refine Zn ?_ rfl _;refine Zn ?_ rfl _;refine Zn ?_ rfl _;refine Zn ?_ rfl _;exact Qr (Zb Hg9.out hgT) _
       ·have hi:i=p.length:=by omega
        subst hi;have Hnone:=hid (Zja hN.out);gi_wp2;refine⟨(Vd hgi.out (fun r e=>by cases e)).from _,trivial,Zb Hg9.out hgi.out,fun r' hr'=>?_⟩
        rcases List.mem_append.1 hr' with hr'|hr'
        ·exact Hno.out r' hr'
        ·rw[List.mem_singleton] at hr';subst hr';exact Hnone.out
     case done=>
      rintro D xs W hD hS hI9 hK;obtain⟨hg9,hno⟩:=hI9
      have Hsc:=hid (Zeh Hnc0.out (fun r hr=>by
       rw[<-hS] at hr
       obtain⟨x,hx,rfl⟩:=List.mem_map.1 hr
       exact hno x hx))
      have hsz9:=hg9.size;have HR9:=hid ((hg9.block _ (by omega) (by simp)).trans Hres.out);obtain⟨r1,r2⟩:=Za HR9.out;have Hg9:=hid hg9;clear hno hg9 hOI hOX
      by_cases hv:65536<Kc p
      ·have hv':(65536:Int)<(Kc p:Int):=by omega
       have hv2:decide ((65536:Int)<(Kc p:Int))=true:=decide_eq_true hv';go_wp2_with fail;have hDn:D≠w.heap.size+1:=by omega
       have hK':((((W.setCell ⟨w.heap.size+1,0,none⟩ (.int .u8 21)).setCell ⟨w.heap.size+1,1,none⟩ (.int .i64 0)).setCell ⟨w.heap.size+1,2,none⟩ (.int .i64 0)).setCell ⟨w.heap.size+1,3,none⟩ (.int .i64 0)).heap[D]?=some (.deferred (some [])):=by refine Yl ?_ hDn _;refine Yl ?_ hDn _;refine Yl ?_ hDn _;exact Yl hK hDn _
       refine⟨by simp,.inl ⟨_,_,rfl,run_takeDeferred hK',?_⟩⟩;have hc1:=(World.putObj_heap_other (o:=.deferred none) (show w.heap.size+1≠D by omega)).trans (Zcg HR9.out (.int .u8 21) (.int .i64 0) (.int .i64 0) (.int .i64 0));obtain⟨j1,_⟩:=Za hc1;refine⟨X9 (21,(0,0,0)),?_,by rw[Hsc.out,if_pos (.inl hv)],?_⟩
       ·simp[results,Tryz.f11,go_sem,X9,Uo,j1]
       ·refine Y3 ?_ (grownBy_putObj' _ D _) (fun r e=>by cases e;omega);refine Zi ?_ (by simp) _;refine Zi ?_ (by simp) _;refine Zi ?_ (by simp) _;refine Zi ?_ (by simp) _;exact Zb (Zj HI.out.low) Hg9.out
      ·have hv':¬ (65536:Int)<(Kc p:Int):=by omega
       have hv2:decide ((65536:Int)<(Kc p:Int))=false:=decide_eq_false hv'
       by_cases hf:65536<Jj p
       ·have hf2:decide ((65536:Int)<Jj p)=true:=decide_eq_true hf;go_wp2_with fail;have hDn:D≠w.heap.size+1:=by omega
        have hK':((((W.setCell ⟨w.heap.size+1,0,none⟩ (.int .u8 21)).setCell ⟨w.heap.size+1,1,none⟩ (.int .i64 0)).setCell ⟨w.heap.size+1,2,none⟩ (.int .i64 0)).setCell ⟨w.heap.size+1,3,none⟩ (.int .i64 0)).heap[D]?=some (.deferred (some [])):=by refine Yl ?_ hDn _;refine Yl ?_ hDn _;refine Yl ?_ hDn _;exact Yl hK hDn _
        refine⟨by simp,.inl ⟨_,_,rfl,run_takeDeferred hK',?_⟩⟩;have hc1:=(World.putObj_heap_other (o:=.deferred none) (show w.heap.size+1≠D by omega)).trans (Zcg HR9.out (.int .u8 21) (.int .i64 0) (.int .i64 0) (.int .i64 0));obtain⟨j1,_⟩:=Za hc1;refine⟨X9 (21,(0,0,0)),?_,by rw[Hsc.out,if_pos (.inr hf)],?_⟩
        ·simp[results,Tryz.f11,go_sem,X9,Uo,j1]
        ·refine Y3 ?_ (grownBy_putObj' _ D _) (fun r e=>by cases e;omega);refine Zi ?_ (by simp) _;refine Zi ?_ (by simp) _;refine Zi ?_ (by simp) _;refine Zi ?_ (by simp) _;exact Zb (Zj HI.out.low) Hg9.out
       ·have hf2:decide ((65536:Int)<Jj p)=false:=decide_eq_false hf;go_wp2_with fail;have hDn:D≠w.heap.size+1:=by omega
        have hK':((((W.setCell ⟨w.heap.size+1,0,none⟩ (.int .u8 0)).setCell ⟨w.heap.size+1,1,none⟩ (.int .i64 0)).setCell ⟨w.heap.size+1,2,none⟩ (.int .i64 0)).setCell ⟨w.heap.size+1,3,none⟩ (.int .i64 0)).heap[D]?=some (.deferred (some [])):=by refine Yl ?_ hDn _;refine Yl ?_ hDn _;refine Yl ?_ hDn _;exact Yl hK hDn _
        refine⟨by simp,.inl ⟨_,_,rfl,run_takeDeferred hK',?_⟩⟩;have hc1:=(World.putObj_heap_other (o:=.deferred none) (show w.heap.size+1≠D by omega)).trans (Zcg HR9.out (.int .u8 0) (.int .i64 0) (.int .i64 0) (.int .i64 0));obtain⟨j1,_⟩:=Za hc1;refine⟨X9 (0,(0,0,0)),?_,by rw[Hsc.out,if_neg (by omega)],?_⟩
        ·simp[results,Tryz.f11,go_sem,X9,Uo,j1]
        ·refine Y3 ?_ (grownBy_putObj' _ D _) (fun r e=>by cases e;omega);refine Zi ?_ (by simp) _;refine Zi ?_ (by simp) _;refine Zi ?_ (by simp) _;refine Zi ?_ (by simp) _;exact Zb (Zj HI.out.low) Hg9.out
     case stop=>
      rintro D c pre W hD hS hX hK;obtain⟨rfl,ys,r,pt,rfl,h3,h4,h5,h6⟩:=hX
      have Hsc:=hid (Zna (ys:=ys.map (·.1)) (r:=r.1) Hnc0.out (by simpa using hS) (fun r' hr'=>by
       obtain⟨x,hx,rfl⟩:=List.mem_map.1 hr'
       exact h3 x hx) h4)
      have H5:=hid h5;have H6:=hid h6;obtain⟨p1',p2',p3'⟩:=pt;clear h3 h4 h5 h6 hOI hOX;gi_wp2;refine⟨by simp,.inl ⟨_,_,rfl,run_takeDeferred hK,?_⟩⟩;have hc1:=(World.putObj_heap_other (o:=.deferred none) (show w.heap.size+1≠D by omega)).trans H5.out;obtain⟨j1,_⟩:=Za hc1;refine⟨X9 (r.1,(p1',p2',p3')),?_,by rw[Hsc.out],?_⟩
      ·simp[results,Tryz.f11,go_sem,X9,Uo,j1]
      ·exact Y3 (Y3 (Zj HI.out.low) H6.out (fun r e=>by cases e;omega)) (grownBy_putObj' _ D _) (fun r e=>by cases e;omega)
  ·have hq0:((r:Int) != 0)=true:=by simp[h0]
   have HR:=hid (show Y5 p=Yc p by unfold Y5;rw[if_pos (by rw[Hnc.out];exact h0)]);go_upto_region 2 with (first|(go_at_call 56;refine hcall.mono ?_;rintro e w2 ⟨rfl,hg2⟩))
   have h2:=(hg2.block _ (by omega) (by simp)).trans Hr1.out;have hs2:=hg2.size;obtain⟨k1,k2⟩:=Za h2;have n1:w.heap.size+1≠w2.heap.size:=by omega
   have n2:w.heap.size+1<w2.heap.size:=by omega
   clear h2;go_wp2_with fail;refine⟨X9 (r,(p1,p2,p3)),?_,by rw[HR.out,Hnc.out],?_⟩
   ·simp[results,Tryz.f11,go_sem,X9,Uo,k1,n1,n2]
   ·have h6:=Zb Hg1.out hg2
    repeat (first|exact h6|apply Zd|refine Zi ?_ (by simp) _)

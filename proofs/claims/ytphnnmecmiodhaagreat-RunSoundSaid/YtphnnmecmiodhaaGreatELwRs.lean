/- The contract of gnomonlaw15. Conditions in it. -/
import Derived.Test.YtphnnmecmiodhaaGreatERne
import Derived.BigRegion
set_option maxHeartbeats 8000000
set_option maxRecDepth 100000
set_option linter.unusedVariables false
set_option linter.unusedSimpArgs false
set_option linter.unusedSectionVars false
namespace Go.Proofs.YtphnnmecmiodhaaGreat
open Lib(hid)
open Go.RowKit Go.Shelf
theorem Yfm {p:GProg} {cs:List Int} {FL:List FK} {CL:List CK} {st mv:Nat} (hN:NOk p) (hS:SOk p) (h:Yaw p cs FL CL st mv) {i:Nat} {x:FK} (hx:FL[i]?=some x):∃ (s:GM) (V:GVal) (n:Nat) (t:Str) (f:GFun) (y:GBlk) (z:GIns),Yei p s x.2 V n t/\x.1=s.top.pt/\p[x.1.1]?=some f/\f.blocks[x.1.2.1]?=some y/\y.code[x.1.2.2]?=some z:=by
 obtain⟨s,hs,hm⟩:=(h.fmem x).1 (Lj hx);have hok:=Yeh hN hS 16384 cs (StOk.start hN) s hs;unfold Zzf at hm
 split at hm
 ·rename_i h0
  obtain⟨q,hq,rfl⟩:=List.mem_map.1 hm;obtain⟨V,n,t,hF⟩:=Yfd hok.ok hok.nd h0 hq;obtain⟨l,a,ha⟩:=Zfc (s:=s) fun e=>by have:=hok.ok.done.1 e;omega
  obtain⟨f,y,hf,hy,hz⟩:=hok.ok.at_ins ha;rw[<-X1 ha] at hf hy hz;exact⟨s,V,n,t,f,y,_,hF,rfl,hf,hy,hz⟩
 ·cases hm
theorem Yfl {p:GProg} {cs:List Int} {FL:List FK} {CL:List CK} {st mv:Nat} (hN:NOk p) (hS:SOk p) (h:Yaw p cs FL CL st mv) {i:Nat} {x:CK} (hx:CL[i]?=some x):∃ (f:GFun) (y:GBlk) (z:GIns) (fq:GFun),p[x.1.1]?=some f/\f.blocks[x.1.2.1]?=some y/\y.code[x.1.2.2]?=some z/\(z.op=10\/z.op=11)/\p[x.2]?=some fq/\z.args.length=fq.params.length:=by
 obtain⟨s,hs,hm⟩:=(h.cmem x).1 (Lj hx);have hok:=Yeh hN hS 16384 cs (StOk.start hN) s hs;unfold Yab at hm
 split at hm
 ·rename_i hd
  rw[List.mem_singleton] at hm;subst hm;obtain⟨-,f,y,z,fq,h1,h2,h3,h4,h5,h6,-⟩:=hok.did hd;exact⟨f,y,z,fq,h1,h2,h3,h4,h5,h6⟩
 ·cases hm
section
variable {P:Program} {ops:Array Oper} {Q:Exit->Act->World->Prop} {md:Region.Mode} {S:World->Prop} {oi:Oper} {v:Value} {fuel:Nat} {listed:Array Bool} {a:Act} {w:World}
theorem tk0 (i:Nat) (hS:S w) (h:wpAnyH P md ops Q S fuel (listed.setIfInBounds i true) (a.put oi.dst undef) w)
  (hi:ops[i]?=some oi:=by simp only[List.getElem?_toArray,List.getElem?_cons_zero,List.getElem?_cons_succ];rfl)
  (hc:(Region.noSelect ops&&Region.free md ops listed i&&(Region.ready md ops listed).contains i)=true:=by kernel_rfl)
  (hQ:∀ c a w,Q (.panic c) (a.put oi.dst undef) w->Q (.panic c) a w:=by exact fun _ _ _ h=>h)
  (hw:Region.wanted oi (yielded ops a.tmps)=false:=by rfl):wpAnyH P md ops Q S (fuel+1) listed a w:=by
 simp only[Bool.and_eq_true] at hc;exact wpAnyH_take hi hc.1.1 hc.1.2 hc.2 hQ (.inr ⟨hw,rfl⟩) hS h
theorem tk1 (i:Nat) (hS:S w) (h:wpAnyH P md ops Q S fuel (listed.setIfInBounds i true) (a.put oi.dst v) w)
  (hi:ops[i]?=some oi:=by simp only[List.getElem?_toArray,List.getElem?_cons_zero,List.getElem?_cons_succ];rfl)
  (hc:(Region.noSelect ops&&Region.free md ops listed i&&(Region.ready md ops listed).contains i)=true:=by kernel_rfl)
  (hQ:∀ c a w,Q (.panic c) (a.put oi.dst v) w->Q (.panic c) a w:=by exact fun _ _ _ h=>h)
  (hw:Region.wanted oi (yielded ops a.tmps)=true:=by rfl)
  (hy:∀ w,S w->(execOp a.eval oi).run P w=.ok (.value v) w:=by intro w h;(try dsimp only at h);go_simp<;>with_reducible rfl):wpAnyH P md ops Q S (fuel+1) listed a w:=by
 simp only[Bool.and_eq_true] at hc;exact wpAnyH_take hi hc.1.1 hc.1.2 hc.2 hQ (.inl ⟨hw,hy⟩) hS h
theorem tkc (i:Nat) {o:Oper} (hr:Region.ready md ops listed=[i])
  (h:∀ K':Act->World->Prop,Shut (∀ a w,S w->(S w->wpAnyH P md ops Q S fuel (listed.setIfInBounds i true) a w)->K' a w)->if Region.wanted o (yielded ops a.tmps)=true then Oper.wp P o a w K' Q else K' (a.put o.dst undef) w)
  (ho:ops[i]?=some o:=by simp only[List.getElem?_toArray,List.getElem?_cons_zero,List.getElem?_cons_succ];rfl):wpAnyH P md ops Q S (fuel+1) listed a w:=wpAnyH_ready hr (by simp) (AllReadyH.cons ho h AllReadyH.nil)
end
theorem Yfk (p:GProg) (vp vc:Value) (cs:List Int) (B:Nat) (w:World) (hB:B<=w.heap.size) (h:ProgAt w B vp p) (hcs:SlAt intR 1 w B vc cs):
  Calls Tryz.prog 13 #[.agg #[vp],vc] w fun e w'=>e=.returned (.bool true)/\w.grownBy w' none:=by
 obtain⟨A,c,rfl,m1,m2,m3,-⟩:=h.open_;obtain⟨AC,cc,rfl,o1,o2,o3,-⟩:=hcs.open_;have hH:=Zqk hB h;obtain⟨W,hW⟩:∃ W:World,W=w.alloc (.cells #[.slice A p.length c] 47):=⟨_,rfl⟩
 rw[<-hW] at hH;have hgr:=Yef p _ W B (hH.le W (Lb _ _)) (hH.prog W (Lb _ _));have hc:=hH.cell W (Lb _ _);have HH:=hid hH;have HC:=hid (fun (W':World) (hg:w.grownBy W' none)=>show SlAt intR 1 W' B (.slice AC cs.length cc) cs from hcs.below intR.keeps (Zk hg) hB);have Hk:=hid (fun W=>Yci W);clear h hcs hH hB;go_enter Tryz.func13,Tryz.ntmps13;go_upto_region 1 with (fail)
 rw[<-hW];clear hW
 repeat go_step
 refine hgr.mono ?_;rintro e w1 ⟨bg,rfl,hg1⟩;have hc1:=HH.out.cell w1 hg1;have Hg1:=hid (Zb HH.out.grown hg1);clear hc hgr
 cases bg with
 |true=>
  go_wp2_with (go_at_call 51;refine (Hk.out _).mono ?_;rintro e w2 ⟨rfl,hg2⟩);go_ret;exact⟨rfl,Zb Hg1.out hg2⟩
 |false=>
  by_cases h60:(60:Int)<(cs.length:Int)
  ·go_wp2_with (go_at_call 51;refine (Hk.out _).mono ?_;rintro e w2 ⟨rfl,hg2⟩);go_ret;exact⟨rfl,Zb Hg1.out hg2⟩
  ·by_cases hz:(Y5 p).1=0
   ·have hrun:=Yda p _ _ cs B w1 (HH.out.le _ hg1) (HH.out.prog _ hg1) (HC.out _ Hg1.out) hz;go_upto_region 4 with (go_at_call 53;refine hrun.mono ?_;rintro e w2 ⟨FL,CL,vF,vC,st,mv,rfl,hout,hrF,hrC,hg2⟩;obtain⟨A1,c1,rfl,hl1,hl2,-,-⟩:=Zz hrF;obtain⟨A2,c2,rfl,hl3,hl4,-,-⟩:=Zz hrC;have HO:=hid (And.intro hout (And.intro hrF (And.intro hrC hg2)));clear hout hrF hrC hg2)
    obtain⟨w3,hw3⟩:∃ w3,w3=w2.alloc (.cells #[.slice A1 FL.length c1,.slice A2 CL.length c2,.int .u8 st,.int .i64 mv] 102):=⟨_,rfl⟩
    rw[<-hw3];obtain⟨tb,htb⟩:∃ tb,tb=w2.heap.size:=⟨_,rfl⟩
    rw[<-htb];have hg23:w2.grownBy w3 none:=by rw[hw3];exact Lc _ _ _
    have hbt:w3.heap[tb]?=some (.cells #[.slice A1 FL.length c1,.slice A2 CL.length c2,.int .u8 st,.int .i64 mv] 102 (0,0)):=by rw[hw3,htb];exact La _ _
    have hg3:=Zb hg1 (Zb HO.out.2.2.2 hg23);have hc3:=HH.out.cell w3 hg3;have hnew:=Zkc p _ w3 B (HH.out.le _ hg3) (HH.out.prog _ hg3) (Zjs (Jt hz)) hz;have Hg23:=hid hg23;have Hg3:=hid (Zb HH.out.grown hg3);have hlf:FL.length<=9223372036854775807:=by unfold maxLen at hl2;omega
    have hlc:CL.length<=9223372036854775807:=by unfold maxLen at hl4;omega
    clear hw3 htb hg23 hg3 hrun hc1 hl1 hl2 hl3 hl4;have HN:=hid (And.intro (Jt hz) (Zph hz));have Hbt:=hid hbt;clear hbt hg1 hz;go_upto_region 5 with (go_at_call 22;refine hnew.mono ?_;rintro e wS ⟨mS,rfl,hS,hg4⟩;have HS:=hid hS;have Hg4:=hid hg4;clear hS hg4)
    clear hnew hc3
    have HT:=hid (show ∀ W',wS.grownBy W' none->W'.cell? ⟨tb,0,none⟩=some (.slice A1 FL.length c1)/\W'.cell? ⟨tb,1,none⟩=some (.slice A2 CL.length c2) from fun W' hg=>by
     have hb:=((Zb Hg4.out hg).block _ (Ze Hbt.out) (by simp)).trans Hbt.out
     exact⟨(Za hb).1 0,(Za hb).1 1⟩)
    have HM:=hid (fun (W':World) (hg:wS.grownBy W' none)=>HS.out.grown hg);go_wp2_with fail;go_loopw [9] (fun s9 wr=>∃ i:Nat,i<=FL.length/\s9=.int .i64 i/\Hid (wS.grownBy wr none)) (fun s9 _=>FL.length-(intOf s9).toNat)
    case atStart=>exact⟨0,Lm _,rfl,Lb _ _⟩
    case round=>
     obtain⟨i,hi,rfl,hgr⟩:=hrel;have t0:=(HT.out wr hgr.out).1
     by_cases hil:i<FL.length
     ·obtain⟨x,hx⟩:∃ x,FL[i]?=some x:=⟨_,Ld hil⟩
      obtain⟨s,V,n,t,f,y,z,hF,hpt,hf,hy,hz⟩:=Yfm HN.out.1 HN.out.2 HO.out.1 hx;obtain⟨G,kc,eG,-,fG⟩:=Yam HO.out.2.1 hx;injection eG with eG _ ec
      subst eG;subst ec;obtain⟨⟨pf,pb,pi⟩,x1,x2⟩:=x;simp only at hpt hf hy hz fG;obtain rfl:x1=(n:Int):=hF.key;have hgW:=Zb Hg23.out (Zb Hg4.out hgr.out);obtain⟨c0,c1',c2',c3,c4⟩:=fG wr hgW;have hvar:=hF.var;rw[<-hpt] at hvar;have HF:=hid hF;have HP:=hid (And.intro hf (And.intro hy hz));have Hvar:=hid hvar;clear fG hx hF hpt hf hy hz hgW hvar;go_upto_region 11 with (fail)
      obtain⟨w5,hw5⟩:∃ w5,w5=wr.alloc (.cells #[.int .i64 pf,.int .i64 pb,.int .i64 pi,.int .i64 (n:Int),.int .i64 x2] 93):=⟨_,rfl⟩
      rw[<-hw5];obtain⟨u,hu⟩:∃ u,u=wr.heap.size:=⟨_,rfl⟩
      rw[<-hu];have hg5:wr.grownBy w5 none:=by rw[hw5];exact Lc _ _ _
      have hb5:w5.heap[u]?=some (.cells #[.int .i64 pf,.int .i64 pb,.int .i64 pi,.int .i64 (n:Int),.int .i64 x2] 93 (0,0)):=by rw[hw5,hu];exact La _ _
      have hg5':=Zb hgr.out hg5;have hins:=Zay (HM.out _ hg5') HP.out.1 HP.out.2.1 HP.out.2.2;simp only[insV] at hins;have k0:w5.cell? ⟨u,0,none⟩=some (.int .i64 pf):=(Za hb5).1 0;have k1:w5.cell? ⟨u,1,none⟩=some (.int .i64 pb):=(Za hb5).1 1;have k2:w5.cell? ⟨u,2,none⟩=some (.int .i64 pi):=(Za hb5).1 2;have Hb5:=hid hb5;have Hg5:=hid hg5';clear hw5 hu hg5 hb5 hg5' c0 c1' c2' c3 c4 t0;go_upto_region 12 with (go_at_call 26;refine hins.mono ?_;rintro e w6 ⟨A5,d5,A6,d6,rfl,-,hg6⟩;have Hg6:=hid hg6;clear hg6)
      obtain⟨w7,hw7⟩:∃ w7,w7=w6.alloc (.cells #[.int .u8 z.op,.string ⟨z.dst.toArray⟩,.string ⟨z.a.toArray⟩,.string ⟨z.b.toArray⟩,.int .i64 z.n,.string ⟨z.fn.toArray⟩,.slice A5 z.args.length d5,.slice A6 z.labels.length d6] 25):=⟨_,rfl⟩
      rw[<-hw7];have hg57:w5.grownBy w7 none:=by rw[hw7];exact Zd Hg6.out _
      have hb7:=(hg57.block _ (Ze Hb5.out) (by simp)).trans Hb5.out;have hvo:=Yek (HM.out _ (Zb Hg5.out hg57)) Hvar.out;simp only at hvo;have k3:w7.cell? ⟨u,3,none⟩=some (.int .i64 (n:Int)):=(Za hb7).1 3;have Hb7:=hid hb7;have Hg7:=hid (Zb Hg5.out hg57);clear hw7 hg57 hb7 hins k0 k1 k2 Hb5 Hg5 Hg6;go_upto_region 13 with (go_at_call 44;refine hvo.mono ?_;rintro e w8 ⟨rfl,hg8⟩;have Hg8:=hid hg8;clear hg8)
      obtain⟨q,qu,qf,hob,-⟩:=Yeo (HM.out _ (Zb Hg7.out Hg8.out)) HF.out;obtain⟨q0,q1,q2⟩:=q;simp only at hob;have hb8:=(Hg8.out.block _ (Ze Hb7.out) (by simp)).trans Hb7.out;have k4:w8.cell? ⟨u,4,none⟩=some (.int .i64 x2):=(Za hb8).1 4;have Hb8:=hid hb8;clear hb8 hvo k3 Hb7;go_upto_region 14 with (go_at_call 45;refine hob.mono ?_;rintro e w9 ⟨rfl,hg9⟩;have Hg9:=hid hg9;clear hg9)
      obtain⟨wA,hwA⟩:∃ wA,wA=w9.alloc (.cells #[.int .i64 q0,.int .i64 q1,.int .i64 q2] 41):=⟨_,rfl⟩
      rw[<-hwA];have hg8A:w8.grownBy wA none:=by rw[hwA];exact Zd Hg9.out _
      have hbA:=(hg8A.block _ (Ze Hb8.out) (by simp)).trans Hb8.out;have k0:wA.cell? ⟨u,0,none⟩=some (.int .i64 pf):=(Za hbA).1 0;have HgA:=hid (Zb Hg7.out (Zb Hg8.out hg8A));clear hwA hg8A hbA hob k4;go_wp2_with fail;go_roundw
      case rel=>exact⟨i+1,by omega,by go_num,HgA.out⟩
      case measure=>simp[intOf];omega
     ·obtain rfl:i=FL.length:=by omega
      have t1:=(HT.out wr hgr.out).2;go_wp2_with fail;clear t0;go_loopw [20] (fun s20 wr=>∃ j:Nat,j<=CL.length/\s20=.int .i64 j/\Hid (wS.grownBy wr none)) (fun s20 _=>CL.length-(intOf s20).toNat)
      case atStart=>exact⟨0,Lm _,rfl,hgr.out⟩
      case round=>
       obtain⟨j,hj,rfl,hgq⟩:=hrel;have t1:=(HT.out wr hgq.out).2
       by_cases hjl:j<CL.length
       ·obtain⟨x,hx⟩:∃ x,CL[j]?=some x:=⟨_,Ld hjl⟩
        obtain⟨f,y,z,fq,hf,hy,hz,hop,hfq,hal⟩:=Yfl HN.out.1 HN.out.2 HO.out.1 hx;obtain⟨G,kc,eG,-,fG⟩:=Yem HO.out.2.2.1 hx;injection eG with eG _ ec
        subst eG;subst ec;obtain⟨⟨pf,pb,pi⟩,x2⟩:=x;simp only at hf hy hz hfq fG;have Hg23:=hid (fun W' (hg:wS.grownBy W' none)=>fG W' (Zb Hg23.out (Zb Hg4.out hg)));obtain⟨c0,c1',c2',c3⟩:=Hg23.out wr hgq.out;have hins:=Zay (HM.out _ hgq.out) hf hy hz;simp only[insV] at hins;have hl2:=(Le hfq).1;have HX:=hid (And.intro hfq (And.intro hal hop));clear fG hx hf hy hz hfq hal hop c3;go_upto_region 19 with (fail)
        go_upto_region 20 with (go_at_call 26;refine hins.mono ?_;rintro e w6 ⟨A5,d5,A6,d6,rfl,-,hg6⟩;have Hg6:=hid hg6;clear hg6)
        obtain⟨w7,hw7⟩:∃ w7,w7=w6.alloc (.cells #[.int .u8 z.op,.string ⟨z.dst.toArray⟩,.string ⟨z.a.toArray⟩,.string ⟨z.b.toArray⟩,.int .i64 z.n,.string ⟨z.fn.toArray⟩,.slice A5 z.args.length d5,.slice A6 z.labels.length d6] 25):=⟨_,rfl⟩
        rw[<-hw7];obtain⟨u,hu⟩:∃ u,u=w6.heap.size:=⟨_,rfl⟩
        rw[<-hu];have hg7:wS.grownBy w7 none:=by rw[hw7];exact Zd (Zb hgq.out Hg6.out) _
        have hb7:w7.heap[u]?=some (.cells #[.int .u8 z.op,.string ⟨z.dst.toArray⟩,.string ⟨z.a.toArray⟩,.string ⟨z.b.toArray⟩,.int .i64 z.n,.string ⟨z.fn.toArray⟩,.slice A5 z.args.length d5,.slice A6 z.labels.length d6] 25 (0,0)):=by rw[hw7,hu];exact La _ _
        have HSc:=hid (show ∀ W',w7.grownBy W' none->W'.cell? ⟨tb,1,none⟩=some (.slice (some ⟨G,0,none⟩) CL.length c2)/\W'.cell? ⟨G,j*4+3,none⟩=some (.int .i64 x2)/\W'.cell? ⟨u,0,none⟩=some (.int .u8 z.op)/\W'.cell? ⟨u,6,none⟩=some (.slice A5 z.args.length d5) from fun W' hg=>by
         have hb:=(hg.block _ (Ze hb7) (by simp)).trans hb7
         exact⟨(HT.out W' (Zb hg7 hg)).2,(Hg23.out W' (Zb hg7 hg)).2.2.2,(Za hb).1 0,(Za hb).1 6⟩)
        have Hfu:=hid (fun W' (hg:w7.grownBy W' none)=>Zot (HM.out _ (Zb hg7 hg)));have Hpa:=hid (fun W' (hg:w7.grownBy W' none)=>Zmh (HM.out _ (Zb hg7 hg)) HX.out.1);simp only[List.length_map] at Hpa;have Hg7:=hid hg7;have hal:=HX.out.2.1;have hg:=Lb w7 none;clear hw7 hu hb7 hg7 hins c0 c1' c2' t1;have hop:=HX.out.2.2;have n1:¬ (x2:Int)<0:=by omega
        have n2:¬ (p.length:Int)<=x2:=by omega
        have n3:¬ p.length<=x2:=by omega
        obtain⟨o,ho⟩:∃ o:Int,o=z.op:=⟨_,rfl⟩
        have hop:o=10\/o=11:=by omega
        rw[<-ho] at HSc;clear ho
        rcases hop with rfl|rfl
        refine wp_region_held_drew (S:=(fun W'=>W'.cell? ⟨tb,1,none⟩=some (.slice (some ⟨G,0,none⟩) CL.length c2)/\W'.cell? ⟨G,j*4+3,none⟩=some (.int .i64 x2)/\W'.cell? ⟨u,0,none⟩=some (.int .u8 10)/\W'.cell? ⟨u,6,none⟩=some (.slice A5 z.args.length d5))) (by kernel_rfl) (HSc.out _ (Zf hg)) (fun h0=>?_)
        rotate_left
        refine wp_region_held_drew (S:=(fun W'=>W'.cell? ⟨tb,1,none⟩=some (.slice (some ⟨G,0,none⟩) CL.length c2)/\W'.cell? ⟨G,j*4+3,none⟩=some (.int .i64 x2)/\W'.cell? ⟨u,0,none⟩=some (.int .u8 11)/\W'.cell? ⟨u,6,none⟩=some (.slice A5 z.args.length d5))) (by kernel_rfl) (HSc.out _ (Zf hg)) (fun h0=>?_)
        all_goals
         refine tk1 0 h0 ?_;refine tk1 1 h0 ?_;refine tk1 2 h0 ?_;simp only[Act.put,Lg,Lh,Li];refine tk1 3 h0 ?_;simp only[Act.put,Lg,Lh,Li];refine tk1 4 h0 ?_;refine tk1 5 h0 ?_;simp only[Act.put,Lg,Lh,Li];refine tk1 6 h0 ?_;simp only[Act.put,Lg,Lh,Li]
         first|refine tk1 7 h0 ?_|refine tk0 7 h0 ?_
         simp only[Act.put,Lg,Lh,Li]
         first|refine tk1 8 h0 ?_|refine tk0 8 h0 ?_
         simp only[Act.put,Lg,Lh,Li]
         first|refine tk1 9 h0 ?_|refine tk0 9 h0 ?_
         simp only[Act.put,Lg,Lh,Li];refine tk1 10 h0 ?_;simp only[Act.put,Lg,Lh,Li];refine tk1 11 h0 ?_;simp only[Act.put,Lg,Lh,Li];refine tk1 12 h0 ?_;refine tk1 13 h0 ?_;refine tk1 14 h0 ?_;simp only[Act.put,Lg,Lh,Li];refine tk1 15 h0 ?_;simp only[Act.put,Lg,Lh,Li];refine tk1 16 h0 ?_;refine tk1 17 h0 ?_;simp only[Act.put,Lg,Lh,Li];refine tk1 18 h0 ?_;simp only[Act.put,Lg,Lh,Li];refine tk1 19 h0 ?_;simp only[Act.put,Lg,Lh,Li];refine tk1 20 h0 ?_;simp only[Act.put,Lg,Lh,Li];refine tk1 21 h0 ?_;refine tk1 22 h0 ?_;refine tk1 23 h0 ?_;simp only[Act.put,Lg,Lh,Li];refine tk1 24 h0 ?_;simp only[Act.put,Lg,Lh,Li];refine tk1 25 h0 ?_;simp only[Act.put,Lg,Lh,Li];refine tk1 26 h0 ?_;simp only[Act.put,Lg,Lh,Li];refine tk1 27 h0 ?_;simp only[Act.put,Lg,Lh,Li];refine tk1 28 h0 ?_;simp only[Act.put,Lg,Lh,Li];refine tkc 29 (by kernel_rfl) fun K hK=>?_
         (go_simp;go_at_call 55;refine (Hfu.out _ (Zf hg)).mono ?_;rintro e w8 ⟨rfl,rfl⟩)
         refine hK.out _ _ h0 fun _=>?_
         try simp only[Act.put,Lg,Lh,Li]
         refine tk1 30 h0 ?_;simp only[Act.put,Lg,Lh,Li];refine tk1 31 h0 ?_;simp only[Act.put,Lg,Lh,Li];refine tk1 32 h0 ?_;refine tk1 33 h0 ?_;refine tk1 34 h0 ?_;simp only[Act.put,Lg,Lh,Li];refine tk1 35 h0 ?_;simp only[Act.put,Lg,Lh,Li];refine tk1 36 h0 ?_;simp only[Act.put,Lg,Lh,Li];refine tk1 37 h0 ?_;simp only[Act.put,Lg,Lh,Li];refine tk1 38 h0 ?_;simp only[Act.put,Lg,Lh,Li];refine tk1 39 h0 ?_;simp only[Act.put,Lg,Lh,Li];refine tk1 42 h0 ?_;simp only[Act.put,Lg,Lh,Li];refine tk1 43 h0 ?_;simp only[Act.put,Lg,Lh,Li];refine tk1 44 h0 ?_;simp only[Act.put,Lg,Lh,Li];refine tkc 40 (by kernel_rfl) fun K hK=>?_
         (go_simp;go_at_call 46;refine (Hpa.out _ (Zf hg)).mono ?_;rintro e w9 ⟨v2,rfl,ho2,hg9⟩;obtain⟨A9,c9,rfl,-,-,-,-⟩:=Zz ho2;have hg:=Zb (Zf hg) hg9;clear hg9 ho2)
         have h2:=HSc.out _ hg;refine hK.out _ _ h2 fun _=>?_
         try simp only[Act.put,Lg,Lh,Li]
         refine tk1 41 h2 ?_;simp only[Act.put,Lg,Lh,Li];refine tk1 45 h2 ?_;simp only[Act.put,Lg,Lh,Li];refine tk1 46 h2 ?_;simp only[Act.put,Lg,Lh,Li];refine wpAnyH_done (by kernel_rfl) ?_ _;have Hgz:=hid (Zb Hg7.out hg);clear hg HSc Hfu Hpa;go_wp2_with fail;go_roundw
         case rel=>exact⟨j+1,by omega,by go_num,Hgz.out⟩
         case measure=>simp[intOf];omega
       ·obtain rfl:j=CL.length:=by omega
        have Hgz:=hid (Zb Hg3.out (Zb Hg4.out hgq.out));go_wp2_with (go_at_call 51;refine (Hk.out _).mono ?_;rintro e wz ⟨rfl,hgz⟩;have hgz:=hid (Zb Hgz.out hgz));go_ret;exact⟨rfl,hgz.out⟩
   ·have hrun:=Yfj p _ AC cs.length cc B w1 (HH.out.le _ hg1) (HH.out.prog _ hg1) hz;go_upto_region 4 with (go_at_call 53;refine hrun.mono ?_;rintro e w2 ⟨rfl,hg2⟩)
    have hg3:=Zb hg1 (Zd hg2 (.cells #[.slice none 0 0,.slice none 0 0,.int .u8 0,.int .i64 0] 102));obtain⟨w3,hw3⟩:∃ w3,w3=w2.alloc (.cells #[.slice none 0 0,.slice none 0 0,.int .u8 0,.int .i64 0] 102):=⟨_,rfl⟩
    obtain⟨tb,htb⟩:∃ tb,tb=w2.heap.size:=⟨_,rfl⟩
    rw[<-hw3] at hg3 ⊢;rw[<-htb];have hbt:w3.heap[tb]?=some (.cells #[.slice none 0 0,.slice none 0 0,.int .u8 0,.int .i64 0] 102 (0,0)):=by rw[hw3,htb];exact La _ _
    have hc3:=HH.out.cell w3 hg3;have hnew:=Zkd p _ w3 B (HH.out.le _ hg3) (HH.out.prog _ hg3) hz;have Hbt:=hid hbt;have Hg3:=hid (Zb HH.out.grown hg3);clear hw3 htb hrun hc1 hbt hg1 hg2 hg3;go_upto_region 5 with (go_at_call 22;refine hnew.mono ?_;rintro e w4 ⟨rfl,hg4⟩)
    have hb4:=(hg4.block _ (Ze Hbt.out) (by simp)).trans Hbt.out;have t0:w4.cell? ⟨tb,0,none⟩=some (.slice none 0 0):=(Za hb4).1 0;have t1:w4.cell? ⟨tb,1,none⟩=some (.slice none 0 0):=(Za hb4).1 1;have Hg4:=hid (Zb Hg3.out hg4);clear hnew hc3 hb4 Hbt hg4;go_wp2_with fail;go_loopw [9] (fun s9 wr=>s9=.int .i64 0/\wr=w4) (fun _ _=>0)
    case atStart=>exact⟨rfl,rfl⟩
    case round=>
     obtain⟨rfl,rfl⟩:=hrel;go_wp2_with fail;go_loopw [20] (fun s20 wq=>s20=.int .i64 0/\wq=wr) (fun _ _=>0)
     case atStart=>exact⟨rfl,rfl⟩
     case round=>
      obtain⟨rfl,rfl⟩:=hrel;go_wp2_with (go_at_call 51;refine (Hk.out _).mono ?_;rintro e wz ⟨rfl,hgz⟩;have hgz:=hid (Zb Hg4.out hgz));go_ret;exact⟨rfl,hgz.out⟩

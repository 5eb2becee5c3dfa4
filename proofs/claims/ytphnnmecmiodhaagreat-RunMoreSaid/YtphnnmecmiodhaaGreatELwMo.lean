/- The contract of gnomonlaw15. Conditions in it. -/
import Derived.Test.YtphnnmecmiodhaaGreatERne
import Derived.Test.YtphnnmecmiodhaaGreatERm
import Derived.BigRegion
set_option maxHeartbeats 8000000
set_option maxRecDepth 100000
set_option linter.all false
namespace Go.Proofs.YtphnnmecmiodhaaGreat
open Lib(hid)
open Go.RowKit Go.Shelf
theorem pcmp {α:Type} {f:α->α->Int} {L:List α} (h:L.Pairwise fun x y=>f x y<0) {i:Nat} {x y:α} (hx:L[i]?=some x) (hy:L[i+1]?=some y):¬ 0<=f x y:=by
 obtain⟨h1,rfl⟩:=Le hx;obtain⟨h2,rfl⟩:=Le hy;have:=List.pairwise_iff_getElem.1 h i (i+1) h1 h2 (Nat.lt_succ_self i);omega
theorem Yhh (W:World):∃ V t,V=W.alloc (.cells #[.slice none 0 0,.slice none 0 0,.int .u8 0,.int .i64 0] 102)/\t=W.heap.size/\W.grownBy V none/\V.heap[t]?=some (.cells #[.slice none 0 0,.slice none 0 0,.int .u8 0,.int .i64 0] 102 (0,0)):=⟨_,_,rfl,rfl,Lc _ _ _,La _ _⟩
theorem allocD (W:World):∃ V t,V=(W.alloc (.cells #[.slice none 0 0,.slice none 0 0,.int .u8 0,.int .i64 0] 102)).drew/\t=W.heap.size/\W.drew.grownBy V none/\V.heap[t]?=some (.cells #[.slice none 0 0,.slice none 0 0,.int .u8 0,.int .i64 0] 102 (0,0)):=⟨_,_,rfl,rfl,Lc W.drew _ none,La W _⟩
theorem Yhg (p:GProg) (vp:Value) (A1:Option Addr) (n1 c1:Nat) (cs:List Int) (B:Nat) (w:World) (hB:B<=w.heap.size) (h:ProgAt w B vp p) (hcs:SlAt intR 1 w B (.slice A1 n1 c1) cs) (er:Int) (her:er=if (Y5 p).1=0 then 0 else 5):
  Calls Tryz.prog 53 #[.agg #[vp],.slice A1 n1 c1] w fun e w'=>∃ (FL:List FK) (CL:List CK) (A1 A2:Option Addr) (c1 c2 st mv:Nat),e=.returned (.tuple #[.agg #[.slice A1 FL.length c1,.slice A2 CL.length c2,.int .u8 st,.int .i64 mv],.int .i64 er])/\((Y5 p).1=0->RunOut p cs FL CL st mv)/\
   w'.ownsRow w.heap.size 93 5 (.slice A1 FL.length c1) FL.length (FL.flatMap clF)/\w'.ownsRow w.heap.size 81 4 (.slice A2 CL.length c2) CL.length (CL.flatMap clC)/\w.grownBy w' none:=by
 by_cases hz:(Y5 p).1=0
 ·refine (Yda p _ _ cs B w hB h hcs hz).mono ?_;rintro e w' ⟨FL,CL,vF,vC,st,mv,rfl,ho,hF,hC,hg⟩;obtain⟨A3,c3,rfl,-,-,-,-⟩:=Zz hF;obtain⟨A4,c4,rfl,-,-,-,-⟩:=Zz hC;exact⟨FL,CL,A3,A4,c3,c4,st,mv,by rw[her,if_pos hz],fun _=>ho,hF,hC,hg⟩
 ·refine (Yfj p _ _ _ _ B w hB h hz).mono ?_;rintro e w' ⟨rfl,hg⟩;exact⟨[],[],none,none,0,0,0,0,by rw[her,if_neg hz];rfl,fun e=>absurd e hz,World.ownsRow_nil _ _ _ _,World.ownsRow_nil _ _ _ _,hg⟩
theorem Yhc (p:GProg) (vp vc:Value) (cs:List Int) (vm:Value) (ms:List Int) (B:Nat) (w:World) (hB:B<=w.heap.size) (h:ProgAt w B vp p) (hcs:SlAt intR 1 w B vc cs) (hms:SlAt intR 1 w B vm ms):
  Calls Tryz.prog 11 #[.agg #[vp],vc,vm] w fun e w'=>e=.returned (.bool true)/\w.grownBy w' none:=by
 obtain⟨A,c,rfl,m1,m2,m3,-⟩:=h.open_;obtain⟨AC,cc,rfl,o1,o2,o3,-⟩:=hcs.open_;obtain⟨AM,cm,rfl,q1,q2,q3,-⟩:=hms.open_;have hH:=Zqk hB h;obtain⟨W,hW⟩:∃ W:World,W=w.alloc (.cells #[.slice A p.length c] 47):=⟨_,rfl⟩
 rw[<-hW] at hH;have hgr:=Yef p _ W B (hH.le W (Lb _ _)) (hH.prog W (Lb _ _));have hc:=hH.cell W (Lb _ _);have HH:=hid hH;have HC:=hid (fun (W':World) (hg:w.grownBy W' none)=>And.intro (show SlAt intR 1 W' B (.slice AC cs.length cc) cs from hcs.below intR.keeps (Zk hg) hB) (show SlAt intR 1 W' B (.slice AM ms.length cm) ms from hms.below intR.keeps (Zk hg) hB));have Hk:=hid (fun W=>Yci W);clear h hcs hms hH hB;go_enter Tryz.func11,Tryz.ntmps11;go_upto_region 1 with (fail)
 rw[<-hW];clear hW
 repeat go_step
 refine hgr.mono ?_;rintro e w1 ⟨bg,rfl,hg1⟩;have hc1:=HH.out.cell w1 hg1;have Hg1:=hid (Zb HH.out.grown hg1);clear hc hgr;have Hwk:=hid (fun (W':World) (hg:w.grownBy W' none)=>(Hk.out W').mono (R':=fun e w2=>e=.returned (.bool true)/\w.grownBy w2 none) fun e w2 h=>⟨h.1,Zb hg h.2⟩)
 cases bg with
 |true=>
  go_wp2_with (go_at_call 51;refine (Hwk.out _ Hg1.out).mono ?_;rintro e w2 ⟨rfl,hg2⟩);go_ret;exact⟨rfl,hg2⟩
 |false=>
  by_cases h60:(60:Int)<(cs.length:Int)
  ·go_wp2_with (go_at_call 51;refine (Hwk.out _ Hg1.out).mono ?_;rintro e w2 ⟨rfl,hg2⟩);go_ret;exact⟨rfl,hg2⟩
  by_cases h61:(60:Int)<(ms.length:Int)
  ·go_wp2_with (go_at_call 51;refine (Hwk.out _ Hg1.out).mono ?_;rintro e w2 ⟨rfl,hg2⟩);go_ret;exact⟨rfl,hg2⟩
  have HL:=hid (And.intro (show cs.length<=1000 by omega) (show ms.length<=1000 by omega));obtain⟨er,her⟩:∃ er:Int,er=if (Y5 p).1=0 then 0 else 5:=⟨_,rfl⟩
  have Her:=hid her;clear her;have hrun:=Yhg p _ AC cs.length cc cs B w1 (HH.out.le _ hg1) (HH.out.prog _ hg1) (HC.out _ Hg1.out).1 er Her.out;go_upto_region 4 with (go_at_call 53;refine hrun.mono ?_;rintro e w2 ⟨FL,CL,A1,A2,c1,c2,st,mv,rfl,hout,hrF,hrC,hg2⟩;have HO:=hid (And.intro hout (And.intro hrF (And.intro hrC hg2)));clear hout hrF hrC hg2)
  obtain⟨w3,hw3⟩:∃ w3,w3=w2.alloc (.cells #[.slice A1 FL.length c1,.slice A2 CL.length c2,.int .u8 st,.int .i64 mv] 102):=⟨_,rfl⟩
  rw[<-hw3];obtain⟨tb,htb⟩:∃ tb,tb=w2.heap.size:=⟨_,rfl⟩
  rw[<-htb];have hg23:w2.grownBy w3 none:=by rw[hw3];exact Lc _ _ _
  have hbt:w3.heap[tb]?=some (.cells #[.slice A1 FL.length c1,.slice A2 CL.length c2,.int .u8 st,.int .i64 mv] 102 (0,0)):=by rw[hw3,htb];exact La _ _
  have hg3:=Zb hg1 (Zb HO.out.2.2.2 hg23);have Hg23:=hid hg23;have Hg3w:=hid (Zb HH.out.grown hg3);have Hg3:=hid hg3;have Hbt:=hid hbt;have HS:=hid (fun (W':World) (hg:w3.grownBy W' none)=>HH.out.cell W' (Zb Hg3.out hg));have HCs:=hid (fun (W':World) (hg:w3.grownBy W' none)=>HC.out W' (Zb Hg3w.out hg));have HRn:=hid (fun (W':World) (hg:w3.grownBy W' none) (A5:Option Addr) (n5 c5:Nat) (hsl:SlAt intR 1 W' W'.heap.size (.slice A5 n5 c5) (cs++ms))=>Yhg p _ A5 n5 c5 (cs++ms) W'.heap.size W' (Lf _) ((HH.out.prog _ (Zb Hg3.out hg)).more funR.keeps (HH.out.le _ (Zb Hg3.out hg))) hsl er Her.out);have hg:=Zf (Lb w3 none);clear hw3 htb hg23 hg3 hrun hc1 hg1 hbt;go_cut [9,10] from 35 to 42 (fun s9 s10 wx=>∃ (FL':List FK) (CL':List CK) (A3 A4:Option Addr) (c3 c4 st' mv' tb':Nat),s9=.pointer (some ⟨tb',0,none⟩)/\s10=.int .i64 er/\Hid ((Y5 p).1=0->RunOut p (cs++ms) FL' CL' st' mv')/\Hid (wx.ownsRow w3.heap.size 93 5 (.slice A3 FL'.length c3) FL'.length (FL'.flatMap clF))/\Hid (wx.ownsRow w3.heap.size 81 4 (.slice A4 CL'.length c4) CL'.length (CL'.flatMap clC))/\Hid (wx.heap[tb']?=some (.cells #[.slice A3 FL'.length c3,.slice A4 CL'.length c4,.int .u8 st',.int .i64 mv'] 102 (0,0)))/\Hid (w3.grownBy wx none))
  case first=>
   refine wp_region_held_drew (S:=fun W'=>W'.cell? ⟨w.heap.size,0,none⟩=some (.slice A p.length c)) (by kernel_rfl) (HS.out _ hg) (fun h0=>?_);refine tk1 0 h0 ?_;refine tk1 1 h0 ?_;refine tk1 3 h0 ?_;simp only[Act.put,Lg,Lh,Li];refine tkd 2 9 (by kernel_rfl) (fun K hK=>?_) (fun K hK=>?_)
   rotate_left
   obtain⟨V,tb',hV,htb,hgA,ht⟩:=allocD w3;have hlt:w3.heap.size<=tb':=by rw[htb];exact hg.size
   have hg:=Zb hg hgA;have h0:=HS.out _ hg;go_simp;rw[<-hV,<-htb];refine hK.out _ _ h0 fun _=>?_
   try simp only[Act.put,Lg,Lh,Li]
   clear hV htb;refine tkc 2 (by kernel_rfl) fun K hK=>?_
   obtain⟨u,V1,r1,o1,g1⟩:=Yhe 62 (HCs.out _ hg).1 HL.out.1;have hbs:=hg.size;have hg:=Zb hg g1;refine Yfv r1 rfl rfl rfl rfl ?_;have h0:=HS.out _ hg;refine hK.out _ _ h0 fun _=>?_
   try simp only[Act.put,Lg,Lh,Li]
   have hne:∀ r,u.ownBlock=some r->¬ r=tb':=fun r e=>by have h1:=(o1.lt r e).1;have h2:=Ze ht;omega
   have ht:=(g1.block _ (Ze ht) (by simp)).trans ht;refine tkc 4 (by kernel_rfl) fun K hK=>?_
   obtain⟨A5,n5,c5,V2,r2,hsl,g2⟩:=Yhd 62 (HCs.out _ hg).1 (HCs.out _ hg).2 (by have:=g1.size;omega) HL.out.1 HL.out.2 o1;have hg:=Y3 hg g2 (fun r hr=>Nat.le_trans hbs (o1.lt r hr).1);refine Yfv r2 rfl rfl rfl rfl ?_;have h0:=HS.out _ hg;refine hK.out _ _ h0 fun _=>?_
   try simp only[Act.put,Lg,Lh,Li]
   have ht:=(g2.block _ (Ze ht) (fun e=>hne _ (by first|exact e|exact e.symm) rfl)).trans ht
   rotate_left
   obtain⟨u,V1,r1,o1,g1⟩:=Yhe 62 (HCs.out _ hg).1 HL.out.1;have hbs:=hg.size;have hg:=Zb hg g1;refine Yfv r1 rfl rfl rfl rfl ?_;have h0:=HS.out _ hg;refine hK.out _ _ h0 fun _=>?_
   try simp only[Act.put,Lg,Lh,Li]
   refine tkd 4 9 (by kernel_rfl) (fun K hK=>?_) (fun K hK=>?_)
   rotate_left
   obtain⟨V,tb',hV,htb,hgA,ht⟩:=Yhh V1;have hlt:w3.heap.size<=tb':=by rw[htb];exact hg.size
   have hg:=Zb hg hgA;have h0:=HS.out _ hg;go_simp;rw[<-hV,<-htb];refine hK.out _ _ h0 fun _=>?_
   try simp only[Act.put,Lg,Lh,Li]
   have hne:∀ r,u.ownBlock=some r->¬ r=tb':=fun r e=>by have:=(o1.lt r e).2;omega
   clear hV htb;have o1:=o1.kept hgA (Classical.em _);refine tkc 4 (by kernel_rfl) fun K hK=>?_
   obtain⟨A5,n5,c5,V2,r2,hsl,g2⟩:=Yhd 62 (HCs.out _ hg).1 (HCs.out _ hg).2 (by have:=g1.size;have:=hgA.size;omega) HL.out.1 HL.out.2 o1;have hg:=Y3 hg g2 (fun r hr=>Nat.le_trans hbs (o1.lt r hr).1);refine Yfv r2 rfl rfl rfl rfl ?_;have h0:=HS.out _ hg;refine hK.out _ _ h0 fun _=>?_
   try simp only[Act.put,Lg,Lh,Li]
   have ht:=(g2.block _ (Ze ht) (fun e=>hne _ (by first|exact e|exact e.symm) rfl)).trans ht
   rotate_left
   rotate_left
   obtain⟨A5,n5,c5,V2,r2,hsl,g2⟩:=Yhd 62 (HCs.out _ hg).1 (HCs.out _ hg).2 (by have:=g1.size;omega) HL.out.1 HL.out.2 o1;have hg:=Y3 hg g2 (fun r hr=>Nat.le_trans hbs (o1.lt r hr).1);refine Yfv r2 rfl rfl rfl rfl ?_;have h0:=HS.out _ hg;refine hK.out _ _ h0 fun _=>?_
   try simp only[Act.put,Lg,Lh,Li]
   refine tkd 5 9 (by kernel_rfl) (fun K hK=>?_) (fun K hK=>?_)
   rotate_left
   obtain⟨V,tb',hV,htb,hgA,ht⟩:=Yhh V2;have hlt:w3.heap.size<=tb':=by rw[htb];exact hg.size
   have hg:=Zb hg hgA;have h0:=HS.out _ hg;go_simp;rw[<-hV,<-htb];refine hK.out _ _ h0 fun _=>?_
   try simp only[Act.put,Lg,Lh,Li]
   clear hV htb;have hsl:=(hsl.below intR.keeps (Zk hgA) (Lf _)).more intR.keeps hgA.size
   iterate 3
    refine tkc 5 (by kernel_rfl) fun K hK=>?_
    have hrun2:=HRn.out _ hg A5 n5 c5 hsl
    (go_simp;go_at_call 53;refine hrun2.mono ?_;rintro e w5 ⟨FL',CL',A3,A4,c3,c4,st',mv',rfl,hout,hrF,hrC,hg5⟩)
    have hsz:=hg.size;have hg:=Zb hg hg5;have h0:=HS.out _ hg;refine hK.out _ _ h0 fun _=>?_
    try simp only[Act.put,Lg,Lh,Li]
    have hnF:∀ r,(Value.slice A3 FL'.length c3).ownBlock=some r->¬ r=tb':=fun r e=>by have h1:=(hrF.lt r e).1;have h2:=Ze ht;omega
    have hnC:∀ r,(Value.slice A4 CL'.length c4).ownBlock=some r->¬ r=tb':=fun r e=>by have h1:=(hrC.lt r e).1;have h2:=Ze ht;omega
    have ht:=(hg5.block _ (Ze ht) (by simp)).trans ht;obtain⟨V,hV⟩:∃ V,V=w5:=⟨_,rfl⟩
    subst hV;refine tk1 6 h0 ?_;refine tk1 7 h0 ?_;refine tk1 8 h0 ?_;simp only[Act.put,Lg,Lh,Li]
    rotate_left
   have hrun2:=HRn.out _ hg A5 n5 c5 hsl
   (go_simp;go_at_call 53;refine hrun2.mono ?_;rintro e w5 ⟨FL',CL',A3,A4,c3,c4,st',mv',rfl,hout,hrF,hrC,hg5⟩)
   have hsz:=hg.size;have hg:=Zb hg hg5;have h0:=HS.out _ hg;refine hK.out _ _ h0 fun _=>?_
   try simp only[Act.put,Lg,Lh,Li]
   refine tk1 6 h0 ?_;refine tk1 7 h0 ?_;refine tk1 8 h0 ?_;simp only[Act.put,Lg,Lh,Li];refine tkc 9 (by kernel_rfl) fun K hK=>?_
   obtain⟨V,tb',hV,htb,hgA,ht⟩:=Yhh w5;have hlt:w3.heap.size<=tb':=by rw[htb];exact hg.size
   have hg:=Zb hg hgA;have h0:=HS.out _ hg;go_simp;rw[<-hV,<-htb];refine hK.out _ _ h0 fun _=>?_
   try simp only[Act.put,Lg,Lh,Li]
   have hnF:∀ r,(Value.slice A3 FL'.length c3).ownBlock=some r->¬ r=tb':=fun r e=>by have:=(hrF.lt r e).2;omega
   have hnC:∀ r,(Value.slice A4 CL'.length c4).ownBlock=some r->¬ r=tb':=fun r e=>by have:=(hrC.lt r e).2;omega
   have hrF:=hrF.kept hgA (Classical.em _);have hrC:=hrC.kept hgA (Classical.em _);clear hV htb
   all_goals
    have q0:V.cell? ⟨tb',0,none⟩=some (.slice none 0 0):=(Za ht).1 0;have q1:V.cell? ⟨tb',1,none⟩=some (.slice none 0 0):=(Za ht).1 1;have q2:V.cell? ⟨tb',2,none⟩=some (.int .u8 0):=(Za ht).1 2;have q3:V.cell? ⟨tb',3,none⟩=some (.int .i64 0):=(Za ht).1 3;have f0:=(Za ht).2 0;have f1:=(Za ht).2 1;have f2:=(Za ht).2 2;have f3:=(Za ht).2 3;have hc4:Chg (fun n=>n=tb') V _:=U4 (U4 (U4 (U4 (Chg.refl _ V) 0 (.slice A3 FL'.length c3)) 1 (.slice A4 CL'.length c4)) 2 (.int .u8 st')) 3 (.int .i64 mv');have hg4:=Chg.after hg hc4 (fun n hn e=>by omega);have HF4:=hid (Zzu (hc4.owns hrF hnF) hsz);have HC4:=hid (Zzu (hc4.owns hrC hnC) hsz);have HG4:=hid hg4;have HT4:=hid (Zcg ht (.slice A3 FL'.length c3) (.slice A4 CL'.length c4) (.int .u8 st') (.int .i64 mv'));have HO4:=hid hout;have h0:=HS.out _ hg4;clear hrF hrC hnF hnC hc4 hout;refine tkc 10 (by kernel_rfl) fun K hK=>?_
    go_simp;refine hK.out _ _ h0 fun _=>?_
    try simp only[Act.put,Lg,Lh,Li]
    refine tk1 11 h0 ?_;simp only[Act.put,Lg,Lh,Li];refine wpAnyH_done (by kernel_rfl) ?_ _;go_wp2_with fail;go_meet;exact⟨FL',CL',A3,A4,c3,c4,st',mv',tb',rfl,rfl,HO4.out,HF4.out,HC4.out,HT4.out,HG4.out⟩
  case rest=>
   obtain⟨FL',CL',A3,A4,c3,c4,st',mv',tb',rfl,rfl,HR2,HF2,HC2,Hbt2,Hgc⟩:=hcut
   by_cases hz:(Y5 p).1=0
   rotate_left
   ·obtain rfl:er=5:=by rw[Her.out,if_neg hz]
    have Hgz:=hid (Zb Hg3w.out Hgc.out);go_wp2_with (go_at_call 51;refine (Hwk.out _ Hgz.out).mono ?_;rintro e wz ⟨rfl,hgz⟩;have hgz:=hid hgz);go_ret;exact⟨rfl,hgz.out⟩
   obtain rfl:er=0:=by rw[Her.out,if_pos hz]
   have hlf:FL.length<=9223372036854775807:=by obtain⟨_,_,-,h2,h3,-,-⟩:=Zz HO.out.2.1;unfold maxLen at h3;omega
   have hlc:CL.length<=9223372036854775807:=by obtain⟨_,_,-,h2,h3,-,-⟩:=Zz HO.out.2.2.1;unfold maxLen at h3;omega
   have HO1:=hid (HO.out.1 hz);have HO2:=hid (HR2.out hz);clear hz HR2;obtain⟨wP,hwP⟩:∃ wP,wP=wc:=⟨_,rfl⟩
   subst hwP;have Hg2c:=hid (Zb Hg23.out Hgc.out);have Hgw:=hid (Zb Hg3w.out Hgc.out);obtain⟨p1,p2,p3,p4⟩:=HO1.out.more HO2.out;obtain⟨s1,s2⟩:=HO1.out.ends;have Hp:=hid (And.intro p2 p3);have Hp4:=hid p4;have HT:=hid (show ∀ W',wP.grownBy W' none->W'.heap[tb]?=some (.cells #[.slice A1 FL.length c1,.slice A2 CL.length c2,.int .u8 st,.int .i64 mv] 102 (0,0))/\W'.heap[tb']?=some (.cells #[.slice A3 FL'.length c3,.slice A4 CL'.length c4,.int .u8 st',.int .i64 mv'] 102 (0,0)) from fun W' hg=>⟨((Zb Hgc.out hg).block _ (Ze Hbt.out) (by simp)).trans Hbt.out,(hg.block _ (Ze Hbt2.out) (by simp)).trans Hbt2.out⟩);clear p2 p3 p4 hg;obtain⟨b1,b2⟩:=HT.out wP (Lb _ _);have a0:wP.cell? ⟨tb,0,none⟩=some (.slice A1 FL.length c1):=(Za b1).1 0;have a1:wP.cell? ⟨tb,1,none⟩=some (.slice A2 CL.length c2):=(Za b1).1 1;have a2:wP.cell? ⟨tb,2,none⟩=some (.int .u8 st):=(Za b1).1 2;have a3:wP.cell? ⟨tb,3,none⟩=some (.int .i64 mv):=(Za b1).1 3;have d0:wP.cell? ⟨tb',0,none⟩=some (.slice A3 FL'.length c3):=(Za b2).1 0;have d1:wP.cell? ⟨tb',1,none⟩=some (.slice A4 CL'.length c4):=(Za b2).1 1;have d2:wP.cell? ⟨tb',2,none⟩=some (.int .u8 st'):=(Za b2).1 2;have d3:wP.cell? ⟨tb',3,none⟩=some (.int .i64 mv'):=(Za b2).1 3;clear b1 b2;go_upto_region 9 with (fail)
   go_cut [79] from 49 to 79 (fun s79 wx=>s79=.bool false/\Hid (wP.grownBy wx none))
   case first=>
    have n1:¬ ((mv':Int)<(mv:Int)):=by omega
    have n2:¬ ((16384:Int)<(mv:Int)):=by omega
    have n3:¬ ((st:Int)=0):=by omega
    have n3b:((st:Int) == 0)=false:=by rw[beq_eq_false_iff_ne];omega
    have n4:¬ (mv'<mv):=by omega
    have n5:¬ (16384<mv):=by omega
    by_cases hE:st≠7\/mv=16384
    ·obtain⟨rfl,rfl,rfl,rfl⟩:=Hp4.out hE;have hsm:=Ygp FL CL _ _ _ _ st mv wP _ _ _ _ (HO.out.2.1.kept Hg2c.out (Classical.em _)) HF2.out (HO.out.2.2.1.kept Hg2c.out (Classical.em _)) HC2.out
     by_cases h7:st=7
     ·obtain rfl:mv=16384:=by omega
      subst h7;clear hE s1 s2 p1;go_wp2_with (go_at_call 54;refine hsm.mono ?_;rintro e w5 ⟨rfl,hg5⟩);go_meet;exact⟨rfl,hg5⟩
     ·have h7':¬ ((st:Int)=7):=by omega
      clear hE s1 s2 p1;go_wp2_with (go_at_call 54;refine hsm.mono ?_;rintro e w5 ⟨rfl,hg5⟩);go_meet;exact⟨rfl,hg5⟩
    ·obtain rfl:st=7:=by omega
     have n6:¬ ((mv:Int)=16384):=by omega
     have n6b:((mv:Int) == 16384)=false:=by rw[beq_eq_false_iff_ne];omega
     clear hE s1 s2 p1;go_wp2_with fail;go_meet;exact⟨rfl,Lb _ _⟩
   case rest=>
    obtain⟨rfl,Hgy⟩:=hcut;clear a0 a1 a2 a3 d0 d1 d2 d3;obtain⟨wQ,hwQ⟩:∃ wQ,wQ=wc:=⟨_,rfl⟩
    subst hwQ;have HTc:=hid (fun (W':World) (hg:wQ.grownBy W' none)=>HT.out W' (Zb Hgy.out hg));have HgQ:=hid (Lb wQ none);have HKF:=hid (HO.out.2.1.kept (Zb Hg2c.out Hgy.out) (Classical.em _));have HKC:=hid (HO.out.2.2.1.kept (Zb Hg2c.out Hgy.out) (Classical.em _));have HFq:=hid (HF2.out.kept Hgy.out (Classical.em _));have HCq:=hid (HC2.out.kept Hgy.out (Classical.em _));have Hgw2:=hid (Zb Hgw.out Hgy.out);have hlf':FL'.length<=9223372036854775807:=by obtain⟨_,_,-,h2,h3,-,-⟩:=Zz HF2.out;unfold maxLen at h3;omega
    have hlc':CL'.length<=9223372036854775807:=by obtain⟨_,_,-,h2,h3,-,-⟩:=Zz HC2.out;unfold maxLen at h3;omega
    go_wp2_with fail;go_loopw [11,12] (fun s11 s12 wr=>∃ k i:Nat,i<=FL'.length/\s11=.int .i64 k/\s12=.int .i64 i/\Hid (Ptr FL FL' k i)/\Hid (wQ.grownBy wr none)) (fun _ s12 _=>FL'.length-(intOf s12).toNat)
    case atStart=>exact⟨0,0,Ln _,rfl,rfl,Ptr.start _ _,HgQ.out⟩
    case round=>
     obtain⟨k,i,hi,rfl,rfl,hptr,hgr⟩:=hrel;obtain⟨b1,b2⟩:=HTc.out wr hgr.out;have a0:wr.cell? ⟨tb,0,none⟩=some (.slice A1 FL.length c1):=(Za b1).1 0;have d0:wr.cell? ⟨tb',0,none⟩=some (.slice A3 FL'.length c3):=(Za b2).1 0;clear b1 b2
     by_cases hil:i<FL'.length
     ·obtain⟨y,hy⟩:∃ y,FL'[i]?=some y:=⟨_,Ld hil⟩
      obtain⟨G,kc,eG,-,fG⟩:=Yam HFq.out hy;injection eG with eG _ ec
      subst eG;subst ec;have Hy:=hid (And.intro hy fG);clear hy fG;go_upto_region 15 with (fail)
      go_cut [103] from 87 to 103 (fun s103 wx=>s103=.bool false/\Hid (wr.grownBy wx none))
      case first=>
       by_cases hi0:0<i
       ·obtain⟨i',hi'⟩:∃ i',i=i'+1:=⟨i-1,by omega⟩
        have hil':i'<FL'.length:=by omega
        obtain⟨x,hx⟩:∃ x,FL'[i']?=some x:=⟨_,Ld hil'⟩
        obtain⟨G',kc',eG',-,fG'⟩:=Yam HFq.out hx;injection eG' with eG' _ ec'
        injection eG' with eG'
        injection eG' with eG' _ _
        subst eG';have hcf:=pcmp HO2.out.ford hx (hi'▸Hy.out.1);obtain⟨⟨x0,x1,x2⟩,x3,x4⟩:=x;obtain⟨⟨y0,y1,y2⟩,y3,y4⟩:=y;simp only[Zza] at hcf;have Hcf:=hid hcf;have HS:=hid (fun (W':World) (hg:wr.grownBy W' none)=>And.intro (Zp hg d0) (And.intro (fG' W' (Zb hgr.out hg)) (Hy.out.2 W' (Zb hgr.out hg))));have hw:IntKind.i64.wrap ((i:Int)-1)=(i':Int):=by rw[IntKind.wrap_i64];omega
        have hi0':(0:Int)<(i:Int):=by omega
        have hil1:(i':Int)<(FL'.length:Int):=by omega
        clear hi' hx fG' hcf ec' a0 d0;refine wp_region_held_drew (S:=fun W'=>W'.cell? ⟨tb',0,none⟩=some (.slice (some ⟨G,0,none⟩) FL'.length c3)/\(W'.cell? ⟨G,i'*5,none⟩=some (.int .i64 x0)/\W'.cell? ⟨G,i'*5+1,none⟩=some (.int .i64 x1)/\W'.cell? ⟨G,i'*5+2,none⟩=some (.int .i64 x2)/\W'.cell? ⟨G,i'*5+3,none⟩=some (.int .i64 x3)/\W'.cell? ⟨G,i'*5+4,none⟩=some (.int .i64 x4))/\W'.cell? ⟨G,i*5,none⟩=some (.int .i64 y0)/\W'.cell? ⟨G,i*5+1,none⟩=some (.int .i64 y1)/\W'.cell? ⟨G,i*5+2,none⟩=some (.int .i64 y2)/\W'.cell? ⟨G,i*5+3,none⟩=some (.int .i64 y3)/\W'.cell? ⟨G,i*5+4,none⟩=some (.int .i64 y4)) (by kernel_rfl) (HS.out _ (Zf (Lb _ _))) (fun h0=>?_);refine tk1 0 h0 ?_;refine tk1 1 h0 ?_;refine tk1 2 h0 ?_;refine tk1 3 h0 ?_;refine tk1 4 h0 ?_;refine tk1 5 h0 ?_;simp only[Act.put,Lg,Lh,Li];refine tk1 6 h0 ?_;refine tk1 7 h0 ?_;refine tk1 8 h0 ?_;refine tk1 9 h0 ?_;refine tk1 10 h0 ?_;refine tk1 11 h0 ?_;simp only[Act.put,Lg,Lh,Li];refine tk1 12 h0 ?_;refine tk1 13 h0 ?_;simp only[Act.put,Lg,Lh,Li];refine tkc 14 (by kernel_rfl) fun K hK=>?_
        (go_simp;go_at_call 47;refine (Yae _ _ _ _ _ _ _ _ _ _ _).mono ?_;rintro e w8 ⟨rfl,hl8⟩)
        have hg8:=Zb (Zf (Lb wr none)) hl8.grown;have h2:=HS.out _ hg8;have hcf:=Hcf.out;refine hK.out _ _ h2 fun _=>?_
        try simp only[Act.put,Lg,Lh,Li]
        refine tk1 15 h2 ?_;refine tk1 16 h2 ?_;simp only[Act.put,Lg,Lh,Li];refine wpAnyH_done (by kernel_rfl) ?_ _;go_wp2_with fail;go_meet;exact⟨rfl,hg8⟩
       ·obtain rfl:i=0:=by omega
        clear hi0;go_quiet (fail);go_wp2_with fail;go_meet;exact⟨rfl,Zg (Lb _ _) _⟩
      case rest=>
       obtain⟨rfl,hgx⟩:=hcut;have Hgx:=hid (Zb hgr.out hgx.out);have a0':=Zp hgx.out a0;have d0':=Zp hgx.out d0;clear a0 d0 hgx;go_upto_region 17 with (fail)
       go_cut [121] from 104 to 121 (fun s121 wx=>∃ b:Bool,s121=.bool b/\Hid (Ptr FL FL' (if b then k+1 else k) (i+1))/\Hid (wQ.grownBy wx none))
       case first=>
        by_cases hk:k<FL.length
        ·obtain⟨z,hz⟩:∃ z,FL[k]?=some z:=⟨_,Ld hk⟩
         obtain⟨J,jc,eJ,-,fJ⟩:=Yam HKF.out hz;injection eJ with eJ _ ej
         subst eJ;subst ej;obtain⟨z0',z1',z2',z3',z4'⟩:=fJ _ Hgx.out;obtain⟨y0',y1',y2',y3',y4'⟩:=Hy.out.2 _ Hgx.out
         by_cases hyz:z=y
         ·subst hyz;have Hq:=hid (hptr.out.hit Ycm Ydh HO1.out.ford HO2.out.ford hz Hy.out.1);clear hz fJ;go_quiet (fail);go_wp2_with fail;go_meet;exact⟨true,rfl,Hq.out,Zg Hgx.out nq⟩
         ·have Hq:=hid (hptr.out.miss Hy.out.1 (by rw[hz];intro e;injection e with e;exact hyz e));have he:=fun w=>(keyFK.eqn z y w).trans (by rw[beq_eq_false_iff_ne.2 hyz])
          clear hz fJ;refine wp_region_held_drew (S:=fun W'=>W'=wc.drew) (by kernel_rfl) rfl (fun h0=>?_);refine tk1 0 h0 ?_;refine tk1 1 h0 ?_;refine tk1 2 h0 ?_;refine tk1 3 h0 ?_;refine tk1 4 h0 ?_;refine tk1 5 h0 ?_;simp only[Act.put,Lg,Lh,Li];refine tk1 6 h0 ?_;refine tk1 7 h0 ?_;refine tk1 8 h0 ?_;refine tk1 9 h0 ?_;refine tk1 10 h0 ?_;refine tk1 11 h0 ?_;simp only[Act.put,Lg,Lh,Li];refine tk1 12 h0 ?_;refine tk1 13 h0 ?_;refine tk1 14 h0 ?_;refine tk1 15 h0 ?_;simp only[Act.put,Lg,Lh,Li];refine tk1 16 h0 ?_ (hy:=fun w _=>Ygj rfl rfl rfl (by kernel_rfl) he w);simp only[Act.put,Lg,Lh,Li];refine tk1 17 h0 ?_;simp only[Act.put,Lg,Lh,Li];refine wpAnyH_done (by kernel_rfl) ?_ _;go_wp2_with fail;go_meet;exact⟨false,rfl,Hq.out,Zf Hgx.out⟩
        ·have Hq:=hid (hptr.out.miss Hy.out.1 (by rw[List.getElem?_eq_none (Nat.le_of_not_lt hk)];intro e;cases e));have hk1:¬ ((k:Int)<(FL.length:Int)):=by omega
         go_quiet (fail);go_wp2_with fail;go_meet;exact⟨false,rfl,Hq.out,Zg Hgx.out nq⟩
       case rest=>
        obtain⟨b,rfl,hq,hgz⟩:=hcut;clear a0' d0'
        cases b with
        |false=>
         go_wp2_with fail;go_roundw
         case rel=>exact⟨k,i+1,by omega,rfl,by go_num,hq.out,hgz.out⟩
         case measure=>simp[intOf];omega
        |true=>
         have hk9:k+1<=FL.length:=hq.out.le;go_wp2_with fail;go_roundw
         case rel=>exact⟨k+1,i+1,by omega,by go_num,by go_num,hq.out,hgz.out⟩
         case measure=>simp[intOf];omega
     ·obtain rfl:i=FL'.length:=by omega
      obtain rfl:k=FL.length:=hptr.out.fin Hp.out.1;clear a0 hptr;have HgQ:=hgr;clear hgr;go_wp2_with fail;go_loopw [13,14] (fun s13 s14 wr=>∃ k i:Nat,i<=CL'.length/\s13=.int .i64 k/\s14=.int .i64 i/\Hid (Ptr CL CL' k i)/\Hid (wQ.grownBy wr none)) (fun _ s14 _=>CL'.length-(intOf s14).toNat)
      case atStart=>exact⟨0,0,Ln _,rfl,rfl,Ptr.start _ _,HgQ.out⟩
      case round=>
       obtain⟨k,i,hi,rfl,rfl,hptr,hgr⟩:=hrel;obtain⟨b1,b2⟩:=HTc.out wr hgr.out;have a0:wr.cell? ⟨tb,1,none⟩=some (.slice A2 CL.length c2):=(Za b1).1 1;have d0:wr.cell? ⟨tb',1,none⟩=some (.slice A4 CL'.length c4):=(Za b2).1 1;clear b1 b2
       by_cases hil:i<CL'.length
       ·obtain⟨y,hy⟩:∃ y,CL'[i]?=some y:=⟨_,Ld hil⟩
        obtain⟨G,kc,eG,-,fG⟩:=Yem HCq.out hy;injection eG with eG _ ec
        subst eG;subst ec;have Hy:=hid (And.intro hy fG);clear hy fG;go_upto_region 23 with (fail)
        go_cut [147] from 131 to 147 (fun s147 wx=>s147=.bool false/\Hid (wr.grownBy wx none))
        case first=>
         by_cases hi0:0<i
         ·obtain⟨i',hi'⟩:∃ i',i=i'+1:=⟨i-1,by omega⟩
          have hil':i'<CL'.length:=by omega
          obtain⟨x,hx⟩:∃ x,CL'[i']?=some x:=⟨_,Ld hil'⟩
          obtain⟨G',kc',eG',-,fG'⟩:=Yem HCq.out hx;injection eG' with eG' _ ec'
          injection eG' with eG'
          injection eG' with eG' _ _
          subst eG';have hcf:=pcmp HO2.out.cord hx (hi'▸Hy.out.1);obtain⟨⟨x0,x1,x2⟩,x3⟩:=x;obtain⟨⟨y0,y1,y2⟩,y3⟩:=y;simp only[Zzc] at hcf;have Hcf:=hid hcf;have HS:=hid (fun (W':World) (hg:wr.grownBy W' none)=>And.intro (Zp hg d0) (And.intro (fG' W' (Zb hgr.out hg)) (Hy.out.2 W' (Zb hgr.out hg))));have hw:IntKind.i64.wrap ((i:Int)-1)=(i':Int):=by rw[IntKind.wrap_i64];omega
          have hi0':(0:Int)<(i:Int):=by omega
          have hil1:(i':Int)<(CL'.length:Int):=by omega
          clear hi' hx fG' hcf ec' a0 d0;refine wp_region_held_drew (S:=fun W'=>W'.cell? ⟨tb',1,none⟩=some (.slice (some ⟨G,0,none⟩) CL'.length c4)/\(W'.cell? ⟨G,i'*4,none⟩=some (.int .i64 x0)/\W'.cell? ⟨G,i'*4+1,none⟩=some (.int .i64 x1)/\W'.cell? ⟨G,i'*4+2,none⟩=some (.int .i64 x2)/\W'.cell? ⟨G,i'*4+3,none⟩=some (.int .i64 x3))/\W'.cell? ⟨G,i*4,none⟩=some (.int .i64 y0)/\W'.cell? ⟨G,i*4+1,none⟩=some (.int .i64 y1)/\W'.cell? ⟨G,i*4+2,none⟩=some (.int .i64 y2)/\W'.cell? ⟨G,i*4+3,none⟩=some (.int .i64 y3)) (by kernel_rfl) (HS.out _ (Zf (Lb _ _))) (fun h0=>?_);refine tk1 0 h0 ?_;refine tk1 1 h0 ?_;refine tk1 2 h0 ?_;refine tk1 3 h0 ?_;refine tk1 4 h0 ?_;refine tk1 5 h0 ?_;simp only[Act.put,Lg,Lh,Li];refine tk1 6 h0 ?_;refine tk1 7 h0 ?_;refine tk1 8 h0 ?_;refine tk1 9 h0 ?_;refine tk1 10 h0 ?_;refine tk1 11 h0 ?_;simp only[Act.put,Lg,Lh,Li];refine tk1 12 h0 ?_;refine tk1 13 h0 ?_;simp only[Act.put,Lg,Lh,Li];refine tkc 14 (by kernel_rfl) fun K hK=>?_
          (go_simp;go_at_call 49;refine (Yaq _ _ _ _ _ _ _ _ _).mono ?_;rintro e w8 ⟨rfl,hl8⟩)
          have hg8:=Zb (Zf (Lb wr none)) hl8.grown;have h2:=HS.out _ hg8;have hcf:=Hcf.out;refine hK.out _ _ h2 fun _=>?_
          try simp only[Act.put,Lg,Lh,Li]
          refine tk1 15 h2 ?_;refine tk1 16 h2 ?_;simp only[Act.put,Lg,Lh,Li];refine wpAnyH_done (by kernel_rfl) ?_ _;go_wp2_with fail;go_meet;exact⟨rfl,hg8⟩
         ·obtain rfl:i=0:=by omega
          clear hi0;go_quiet (fail);go_wp2_with fail;go_meet;exact⟨rfl,Zg (Lb _ _) _⟩
        case rest=>
         obtain⟨rfl,hgx⟩:=hcut;have Hgx:=hid (Zb hgr.out hgx.out);have a0':=Zp hgx.out a0;have d0':=Zp hgx.out d0;clear a0 d0 hgx;go_upto_region 25 with (fail)
         go_cut [165] from 148 to 165 (fun s165 wx=>∃ b:Bool,s165=.bool b/\Hid (Ptr CL CL' (if b then k+1 else k) (i+1))/\Hid (wQ.grownBy wx none))
         case first=>
          by_cases hk:k<CL.length
          ·obtain⟨z,hz⟩:∃ z,CL[k]?=some z:=⟨_,Ld hk⟩
           obtain⟨J,jc,eJ,-,fJ⟩:=Yem HKC.out hz;injection eJ with eJ _ ej
           subst eJ;subst ej;obtain⟨z0',z1',z2',z3'⟩:=fJ _ Hgx.out;obtain⟨y0',y1',y2',y3'⟩:=Hy.out.2 _ Hgx.out
           by_cases hyz:z=y
           ·subst hyz;have Hq:=hid (hptr.out.hit Yej Yen HO1.out.cord HO2.out.cord hz Hy.out.1);clear hz fJ;go_quiet (fail);go_wp2_with fail;go_meet;exact⟨true,rfl,Hq.out,Zg Hgx.out nq⟩
           ·have Hq:=hid (hptr.out.miss Hy.out.1 (by rw[hz];intro e;injection e with e;exact hyz e));have he:=fun w=>(keyCK.eqn z y w).trans (by rw[beq_eq_false_iff_ne.2 hyz])
            clear hz fJ;refine wp_region_held_drew (S:=fun W'=>W'=wc.drew) (by kernel_rfl) rfl (fun h0=>?_);refine tk1 0 h0 ?_;refine tk1 1 h0 ?_;refine tk1 2 h0 ?_;refine tk1 3 h0 ?_;refine tk1 4 h0 ?_;refine tk1 5 h0 ?_;simp only[Act.put,Lg,Lh,Li];refine tk1 6 h0 ?_;refine tk1 7 h0 ?_;refine tk1 8 h0 ?_;refine tk1 9 h0 ?_;refine tk1 10 h0 ?_;refine tk1 11 h0 ?_;simp only[Act.put,Lg,Lh,Li];refine tk1 12 h0 ?_;refine tk1 13 h0 ?_;refine tk1 14 h0 ?_;refine tk1 15 h0 ?_;simp only[Act.put,Lg,Lh,Li];refine tk1 16 h0 ?_ (hy:=fun w _=>Ygj rfl rfl rfl (by kernel_rfl) he w);simp only[Act.put,Lg,Lh,Li];refine tk1 17 h0 ?_;simp only[Act.put,Lg,Lh,Li];refine wpAnyH_done (by kernel_rfl) ?_ _;go_wp2_with fail;go_meet;exact⟨false,rfl,Hq.out,Zf Hgx.out⟩
          ·have Hq:=hid (hptr.out.miss Hy.out.1 (by rw[List.getElem?_eq_none (Nat.le_of_not_lt hk)];intro e;cases e));have hk1:¬ ((k:Int)<(CL.length:Int)):=by omega
           go_quiet (fail);go_wp2_with fail;go_meet;exact⟨false,rfl,Hq.out,Zg Hgx.out nq⟩
         case rest=>
          obtain⟨b,rfl,hq,hgz⟩:=hcut;clear a0' d0'
          cases b with
          |false=>
           go_wp2_with fail;go_roundw
           case rel=>exact⟨k,i+1,by omega,rfl,by go_num,hq.out,hgz.out⟩
           case measure=>simp[intOf];omega
          |true=>
           have hk9:k+1<=CL.length:=hq.out.le;go_wp2_with fail;go_roundw
           case rel=>exact⟨k+1,i+1,by omega,by go_num,by go_num,hq.out,hgz.out⟩
           case measure=>simp[intOf];omega
       ·obtain rfl:i=CL'.length:=by omega
        obtain rfl:k=CL.length:=hptr.out.fin Hp.out.2;clear a0 hptr;have Hz:=hid (Zb Hgw2.out hgr.out);have a0:wr.cell? ⟨tb,0,none⟩=some (.slice A1 FL.length c1):=(Za (HTc.out wr hgr.out).1).1 0;have a1:wr.cell? ⟨tb,1,none⟩=some (.slice A2 CL.length c2):=(Za (HTc.out wr hgr.out).1).1 1;go_wp2_with (go_at_call 51;refine (Hwk.out _ Hz.out).mono ?_;rintro e wz ⟨rfl,hgz⟩;have hgz:=hid hgz);go_ret;exact⟨rfl,hgz.out⟩

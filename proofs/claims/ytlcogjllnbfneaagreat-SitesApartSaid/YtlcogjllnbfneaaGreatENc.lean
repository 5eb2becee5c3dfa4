/- The contract of names. Conditions in it. -/
import Derived.Test.YtlcogjllnbfneaaGreatENa
import Derived.Deep.DeepCutAuto
set_option maxHeartbeats 2000000
set_option maxRecDepth 100000
set_option linter.all false
namespace Go.Proofs.YtlcogjllnbfneaaGreat
open Lib(hid)
section
open Go.RowKit
theorem Zop (n nb:Nat) (pt:GPt) (x:GIns) (va vl:Value) (B:Nat) (w:World) (hn:n<=4096) (hc:w.heap[nb]?=some (.cells #[.int .i64 n] 3 (0,0))) (hi:InsAt w B x va vl):
  Calls Tryz.prog 164 #[ptA pt,Uh x va vl,.pointer (some ⟨nb,0,none⟩)] w fun e w'=>e=.returned (.bool (decide (4096<=n)))/\w'.heap[nb]?=some (.cells #[.int .i64 ((n:Int)+1)] 3 (0,0))/\w.grownBy w' (some nb):=by
 obtain⟨A4,d4,rfl,m4,_,_,_⟩:=hi.args.open_;obtain⟨A5,d5,rfl,m5,_,_,_⟩:=hi.lb9.open_;obtain⟨k1,k2⟩:=Za hc;have hl:=Ze hc;have hne:nb≠w.heap.size:=by omega
 have Hc:=hid hc;unfold ptA Uh;clear hi hc
 by_cases h1:4096<=n
 all_goals
  first
   |(have h2:(4096:Int)<(n:Int)+1:=by omega)
   |(have h2:¬ (4096:Int)<(n:Int)+1:=by omega)
  have H1:=hid h1;clear h1;go_enter Tryz.func164,Tryz.ntmps164;go_wp2;go_ret;refine⟨?_,?_,?_⟩
  ·have h1:=H1.out;simp[h1]
   try omega
  ·exact Zc (Zc (Zs Hc.out 0 _) _) _
  ·exact Zd (Zd (Zn (Lb _ _) rfl _) _) _
theorem Zbj:∀ args w,(callFunc 164 args).run Tryz.prog w=.ok (.enter 164 args) w:=enters_of Tryz.func164 (by kernel_rfl) rfl
theorem Zka (p:GProg) (vp vm:Value) (B wb:Nat) (w:World) (hB:B<=w.heap.size) (h:WalkAt w B wb p vp vm):
  Calls Tryz.prog 114 #[.pointer (some ⟨wb,0,none⟩)] w fun e w'=>e=.returned (ptV (Zab p))/\w.grownBy w' none:=by
 obtain⟨w0,hw0⟩:∃ w0:World,w0=(w.alloc (.cells z3 41)).alloc (.cells #[.int .i64 0] 3):=⟨_,rfl⟩
 have hb0:Below w.heap.size w w0:=by rw[hw0];exact ((Below.refl w.heap.size w).alloc (Lf _) _).alloc (by simp) _
 have hsz0:w0.heap.size=w.heap.size+2:=by rw[hw0];simp
 have hn0:w0.heap[w.heap.size+1]?=some (.cells #[.int .i64 0] 3 (0,0)):=by
  have:=La (w.alloc (.cells z3 41)) (.cells #[.int .i64 0] 3);rw[hw0];simpa using this
 have hz0:w0.heap[w.heap.size]?=some (.cells z3 41 (0,0)):=by rw[hw0];exact Zc (La w _) _
 have hc:=Ku p vp vm B wb 164 #[.pointer (some ⟨w.heap.size+1,0,none⟩)] w0 (some (w.heap.size+1)) (fun n W=>n<=4096/\W.heap[w.heap.size+1]?=some (.cells #[.int .i64 n] 3 (0,0))) (fun n _ _=>decide (4096<=n)) (by omega) (h.below hb0 hB)
  (fun r e=>by cases e;omega) (fun _ _ h1 r e=>by cases e;exact⟨_,_,_,h1.2⟩) Zbj (fun k W W' h1 h2=>⟨h1.1,(h2.block _ (by omega)).trans h1.2⟩) ⟨by omega,hn0⟩
  (fun n pt x va vl W hm hj hg hi _=>(Zop n (w.heap.size+1) pt x va vl B W hj.1 hj.2 hi).mono fun e W' ⟨he,hs,hb⟩=>⟨he,fun hq=>⟨by have:=of_decide_eq_false hq;omega,by simpa using hs⟩,hb⟩)
 rw[show Zbn p (fun n _ _=>decide (4096<=n))=Zab p from Kl fun k x _=>by simp] at hc;have hlt:wb<w.heap.size:=by have:=h.lt;omega
 have hgw:∀ w1,w0.grownBy w1 (some (w.heap.size+1))->w1.heap[w.heap.size]?=some (.cells z3 41 (0,0))/\w.grownBy w1 none:=fun w1 hg1=>
  ⟨(hg1.block _ (by omega) (by simp)).trans hz0,Zbq (Zj hb0) hg1 (by omega)⟩
 rw[hw0] at hc;have Hgw:=hid hgw;rw[hw0] at Hgw;clear h hgw hz0 hn0 hb0 hsz0 hw0;obtain⟨r,hr⟩:∃ r,r=Zab p:=⟨_,rfl⟩
 rw[<-hr] at hc ⊢;clear hr
 cases r with
 |none=>
  change Calls _ _ _ _ (fun e w'=>e=.returned (.tuple #[.agg #[.int .i64 0,.int .i64 0,.int .i64 0],.bool false])/\_) at hc;go_enter Tryz.func114,Tryz.ntmps114;go_wp2_with (go_at_call 163;refine hc.mono ?_;rintro e w1 ⟨rfl,hg1⟩;obtain⟨hb1,hb2⟩:=Za (Hgw.out w1 hg1).1);refine bodyPost_ret (v:=ptV none) (by simp[results,Tryz.results114,go_sem,ptV,ptC,hb1]) rfl ⟨rfl,?_⟩
  repeat (first|exact (Hgw.out w1 hg1).2|refine Zi ?_ (Lf _) _)
 |some q=>
  obtain⟨a,b,c⟩:=q;change Calls _ _ _ _ (fun e w'=>e=.returned (.tuple #[.agg #[.int .i64 a,.int .i64 b,.int .i64 c],.bool true])/\_) at hc;go_enter Tryz.func114,Tryz.ntmps114;go_wp2_with (go_at_call 163;refine hc.mono ?_;rintro e w1 ⟨rfl,hg1⟩;obtain⟨hb1,hb2⟩:=Za (Hgw.out w1 hg1).1);refine bodyPost_ret (v:=ptV (some (a,b,c))) (by simp[results,Tryz.results114,go_sem,ptV,ptC,hb1]) rfl ⟨rfl,?_⟩
  repeat (first|exact (Hgw.out w1 hg1).2|refine Zi ?_ (Lf _) _)
end
section
open Go.RowKit
theorem Zew (op:Bool) (s:Str) (w:World) (hs:s.length<=9223372036854775807):
  Calls Tryz.prog 157 #[.bool op,.slice (some ⟨w.heap.size,0,none⟩) 1 1] (w.alloc (.cells #[.string ⟨s.toArray⟩] 9)) fun e w'=>e=.returned (.bool (Qt op s))/\Below w.heap.size w w':=by
 have h:=Zjp op (.slice (some ⟨w.heap.size,0,none⟩) 1 1) [s] (w.alloc (.cells #[.string ⟨s.toArray⟩] 9)).heap.size (w.alloc (.cells #[.string ⟨s.toArray⟩] 9)) (Lf _)
  ⟨_,1,rfl,Lf _,by unfold maxLen;omega,fun k x hx=>by
   match k,hx with
   |0,hx=>
    simp only[List.getElem?_cons_zero,Option.some.injEq] at hx
    subst hx
    exact⟨w.heap.size,0,rfl,by simp,by simp,hs⟩⟩
 exact h.mono fun e w' ⟨he,hb⟩=>⟨by rw[he];simp[Zac],((Below.refl w.heap.size w).alloc (Lf _) _).trans (hb.mono (by simp))⟩
theorem Zti (o:Nat):((Ym o).dst,(Ym o).fn,(Ym o).a,(Ym o).b)∈[(true,false,false,false),(true,true,false,false),(true,false,true,false),(false,false,true,true),(false,false,false,false),(false,false,true,false)]:=by
 match o with
 |0|1|2|3|4|5|6|7|8|9|10|11|12|13|14=>decide
 |n+15=>simp[Ym,Y0]
structure BnX (w0:World) (gx gs:Nat) (bx bs:Array Value) (W:World):Prop where
 x:W.heap[gx]?=some (.cells bx 25 (0,0))
 s:W.heap[gs]?=some (.cells bs 211 (0,0))
 g:w0.grownBy W none
theorem BnX.step {w0 W W':World} {gx gs:Nat} {bx bs:Array Value} (h:BnX w0 gx gs bx bs W) (hb:Below W.heap.size W W'):BnX w0 gx gs bx bs W':=
 ⟨(hb.block gx (Ze h.x)).trans h.x,(hb.block gs (Ze h.s)).trans h.s,Zb h.g (Zj hb)⟩
theorem BnX.low {w W:World} {o:Obj} {gx gs:Nat} {bx bs:Array Value} (h:BnX (w.alloc o) gx gs bx bs W):Below w.heap.size w W:=Yt h.g
def wr1 (x:GIns):Bool:=((((Ym x.op).dst&&Qt false x.dst)||((Ym x.op).fn&&Qt false x.fn))||((Ym x.op).a&&Qt true x.a))||((Ym x.op).b&&Qt true x.b)
theorem Ys (x:GIns):Yn x=((wr1 x||((Ym x.op).args&&(Zac true x.args||x.args.contains [])))||((Ym x.op).lb9&&(Zac false x.lb9||x.lb9.contains []))):=by
 simp[Yn,wr1,Zac,Bool.or_assoc]
theorem Zla (p:GProg) (vp vm:Value) (B wb:Nat) (w:World) (hB:B<=w.heap.size) (h:WalkAt w B wb p vp vm) (mb:Nat) (hvm:vm=.map (some mb)) (hmb:w.heap[mb]?=some shapeObj):
  Calls Tryz.prog 108 #[.pointer (some ⟨wb,0,none⟩)] w fun e w'=>e=.returned (ptV (Vp p))/\w.grownBy w' none:=by
 obtain⟨A,c,rfl,hm,hlc,hcm,hA⟩:=h.prog.open_;have c0:=h.c0;have hlt:wb<w.heap.size:=by have:=h.lt;omega
 have hne:wb≠w.heap.size:=by omega
 have c1w:=h.c1;have hml:=Ze hmb;clear h;go_enter Tryz.func108,Tryz.ntmps108;go_wp2;go_loopw [18] (fun s8 wr=>∃ k:Nat,k<=p.length/\s8=.int .i64 k/\Hid ((w.alloc (.cells z3 41)).grownBy wr none)/\Hid (∀ j,j<k->∀ y,p[j]?=some y->bnF j y=none)) (fun s8 _=>p.length-(intOf s8).toNat)
 case atStart=>exact⟨0,Ln _,rfl,Lb _ _,Z2⟩
 case round=>
  obtain⟨k,hkl,rfl,hg,hP⟩:=hrel;have hsz:=Xc hg.out;have hne0:w.heap.size≠wr.heap.size:=by omega
  have hblk:=Xu hg.out;have hb:=Yt hg.out
  by_cases hl:k<p.length
  ·obtain⟨x,b,off,hx,rfl,hbB,hr⟩:=hA.at_ hl;obtain⟨A1,d1,A2,d2,hf,m1,m2,e0,e1,e2⟩:=Yh hr;have hb':b<w.heap.size:=by omega
   have hbne:b≠wr.heap.size:=by omega
   replace e0:=cur hb hb' e0;replace e1:=cur hb hb' e1;replace e2:=cur hb hb' e2;have Hx:=hid hx;clear hx hr;have hnl:=hf.name;have hcl:=fun w'=>Zge x.name w' hnl
   cases hq:Xl x.name with
   |false=>
    have HF:=hid (show bnF k x=some (k,0,0) by rw[bnF,if_pos (by rw[hq];rfl)]);obtain⟨hb1,hb2⟩:=Za hblk;rw[hq] at hcl;clear hblk hq;go_wp2_with (go_at_call 155;refine (hcl _).mono ?_;rintro e w' ⟨rfl,rfl⟩);refine bodyPost_ret (v:=ptV (some (k,0,0))) (by simp[results,Tryz.results108,go_sem,ptV,ptC,hb1,hsz,hne0]) rfl ⟨?_,?_⟩
    ·rw[Vp,Zo hP.out Hx.out HF.out]
    ·repeat (first|exact Zt hg.out|apply Zd|refine Zg ?_ _|refine Zi ?_ (Lf _) _)
   |true=>
    have hcp:=Xy (.slice A1 x.params.length d1) x.params 156 #[] (wr.alloc (.cells #[.string ⟨x.name.toArray⟩,.slice A1 x.params.length d1,.slice A2 x.bk9.length d2] 37)) B (fun s=> !Xl s) (by simp;omega) (hf.params.below strR.keeps (hb.alloc hb.size _) hB) Zcs
     (fun s W hW hs=>(Zri s W hs).mono fun e w' ⟨he,hw⟩=>⟨he,hw▸hW⟩)
    rw[hq] at hcl;have hblk1:∀ w1,Below (wr.alloc (.cells #[.string ⟨x.name.toArray⟩,.slice A1 x.params.length d1,.slice A2 x.bk9.length d2] 37)).heap.size (wr.alloc (.cells #[.string ⟨x.name.toArray⟩,.slice A1 x.params.length d1,.slice A2 x.bk9.length d2] 37)) w1->w1.heap[w.heap.size]?=some (.cells z3 41 (0,0))/\w1.heap[wr.heap.size]?=some (.cells #[.string ⟨x.name.toArray⟩,.slice A1 x.params.length d1,.slice A2 x.bk9.length d2] 37 (0,0))/\(w.alloc (.cells z3 41)).grownBy w1 none:=fun w1 h1=>
     ⟨(h1.block _ (by simp;omega)).trans (Zc hblk _),(h1.block _ (by simp)).trans (La wr _),Zb (Zd hg.out _) (Zj h1)⟩
    have Hblk1:=hid hblk1;clear hblk hblk1 hb
    cases hq2:x.params.any (fun s=> !Xl s) with
    |true=>
     have HF:=hid (show bnF k x=some (k,0,0) by rw[bnF,if_pos (by rw[hq2];simp)]);rw[hq2] at hcp;clear hq hq2;go_wp2_with (first|(go_at_call 155;refine (hcl _).mono ?_;rintro e w' ⟨rfl,rfl⟩)|(go_at_call 142;refine hcp.mono ?_;rintro e w1 ⟨rfl,hb9⟩;obtain⟨hz1,hx1,hg9⟩:=Hblk1.out w1 hb9;obtain⟨hb1,hb2⟩:=Za hz1));refine bodyPost_ret (v:=ptV (some (k,0,0))) (by simp[results,Tryz.results108,go_sem,ptV,ptC,hb1,hsz,hne0]) rfl ⟨?_,?_⟩
     ·rw[Vp,Zo hP.out Hx.out HF.out]
     ·repeat (first|exact Zt hg9|refine Zi ?_ (Lf _) _)
    |false=>
     have HF:=hid (show bnF k x=Zq x.bk9 (bnB k) by rw[bnF,if_neg (by rw[hq,hq2];simp)]);rw[hq2] at hcp;clear hq hq2;go_wp2_with (first|(go_at_call 155;refine (hcl _).mono ?_;rintro e w' ⟨rfl,rfl⟩)|(go_at_call 142;refine hcp.mono ?_;rintro e w1 ⟨rfl,hb9⟩;obtain⟨hz1,hx1,hg9⟩:=Hblk1.out w1 hb9;obtain⟨hx8,hx9⟩:=Za hx1));have hblk:=hz1;clear hx8 hx9 hz1 hx1 hcl hcp;obtain⟨wo,hwo⟩:∃ wo:World,wo=w1:=⟨_,rfl⟩
     rw[<-hwo];have hgo:(w.alloc (.cells z3 41)).grownBy wo none:=by rw[hwo];repeat (first|exact hg.out|assumption|apply Zd)
     have Hgo:=hid hgo;have hB2:=hf.bk9;clear hwo hgo e0 e1 e2 hblk hsz hne0 hbne;go_loopw [37] (fun s8 wi=>∃ k2:Nat,k2<=x.bk9.length/\s8=.int .i64 k2/\Hid ((w.alloc (.cells z3 41)).grownBy wi none)/\Hid (∀ j,j<k2->∀ y,x.bk9[j]?=some y->bnB k j y=none)) (fun s8 _=>x.bk9.length-(intOf s8).toNat)
     case atStart=>exact⟨0,Ln _,rfl,Hgo.out,Z2⟩
     case round=>
      obtain⟨k2,hkl2,rfl,hg2,hP2⟩:=hrel;have hsz:=Xc hg2.out;have hne0:w.heap.size≠wr.heap.size:=by omega
      have hblk:=Xu hg2.out;have hb:=Yt hg2.out
      by_cases hl2:k2<x.bk9.length
      ·obtain⟨y,b2,off2,hy,rfl,hbB2,hr2⟩:=hB2.at_ hl2;obtain⟨A3,d3,hf2,m3,e0,e1⟩:=Yg hr2;have hb2':b2<w.heap.size:=by omega
       have hbne2:b2≠wr.heap.size:=by omega
       replace e0:=cur hb hb2' e0;replace e1:=cur hb hb2' e1;have Hy:=hid hy;clear hy hr2 hb;have hll:=hf2.label
       cases hq:Xl y.label with
       |false=>
        have HB:=hid (show bnB k k2 y=some (k,k2,0) by rw[bnB,if_pos (by rw[hq];rfl)]);obtain⟨hb1,hb2⟩:=Za hblk;have hcl:=fun w'=>Zge y.label w' hll
        rw[hq] at hcl;clear hblk hq;go_wp2_with (go_at_call 155;refine (hcl _).mono ?_;rintro e w' ⟨rfl,rfl⟩);refine bodyPost_ret (v:=ptV (some (k,k2,0))) (by simp[results,Tryz.results108,go_sem,ptV,ptC,hb1,hsz,hne0]) rfl ⟨?_,?_⟩
        ·rw[Vp,Zo hP.out Hx.out (HF.out.trans (Zo hP2.out Hy.out HB.out))]
        ·repeat (first|exact Zt hg2.out|apply Zd|refine Zg ?_ _|refine Zi ?_ (Lf _) _)
       |true=>
        have HB:=hid (show bnB k k2 y=Zq y.code (bnC k k2) by rw[bnB,if_neg (by rw[hq];simp)]);have hcl:=fun w'=>Zge y.label w' hll
        rw[hq] at hcl;have Hblk:=hid hblk;clear hblk hq;go_wp2_with (go_at_call 155;refine (hcl _).mono ?_;rintro e w' ⟨rfl,rfl⟩);clear hcl;have hblk:=Hblk.out;obtain⟨wo2,hwo2⟩:∃ wo2:World,wo2=wr.alloc (.cells #[.string ⟨y.label.toArray⟩,.slice A3 y.code.length d3] 39):=⟨_,rfl⟩
        rw[<-hwo2];have hgo2:(w.alloc (.cells z3 41)).grownBy wo2 none:=by rw[hwo2];repeat (first|exact hg2.out|assumption|apply Zd)
        have Hgo2:=hid hgo2;have hB3:=hf2.code;clear hwo2 hgo2 e0 e1 hblk hsz hne0 hbne2;go_loopw [52] (fun s8 wi=>∃ k3:Nat,k3<=y.code.length/\s8=.int .i64 k3/\Hid ((w.alloc (.cells z3 41)).grownBy wi none)/\Hid (∀ j,j<k3->∀ z,y.code[j]?=some z->bnC k k2 j z=none)) (fun s8 _=>y.code.length-(intOf s8).toNat)
        case atStart=>exact⟨0,Ln _,rfl,Hgo2.out,Z2⟩
        case round=>
         obtain⟨k3,hkl3,rfl,hg3,hP3⟩:=hrel;have hsz:=Xc hg3.out;have hne0:w.heap.size≠wr.heap.size:=by omega
         have hblk:=Xu hg3.out;have hb:=Yt hg3.out
         by_cases hl3:k3<y.code.length
         ·obtain⟨z,b3,off3,hz,rfl,hbB3,hr3⟩:=hB3.at_ hl3;obtain⟨A4,d4,A5,d5,hf3,m4,m5,e0,e1,e2,e3,e4,e5,e6,e7⟩:=Yw hr3;have hb3':b3<w.heap.size:=by omega
          have hbne3:b3≠wr.heap.size:=by omega
          replace e0:=cur hb hb3' e0;replace e1:=cur hb hb3' e1;replace e2:=cur hb hb3' e2;replace e3:=cur hb hb3' e3;replace e4:=cur hb hb3' e4;replace e5:=cur hb hb3' e5;replace e6:=cur hb hb3' e6;replace e7:=cur hb hb3' e7;have Hz:=hid hz;clear hz hr3;obtain⟨hb1,hb2⟩:=Za hblk;clear hblk;have hmb3:=(hb.block mb hml).trans hmb;have hml3:=Lm hml hb.size;have hlkA:=Ziz (w:=(wr.alloc (.cells #[.int .u8 z.op,.string ⟨z.dst.toArray⟩,.string ⟨z.a.toArray⟩,.string ⟨z.b.toArray⟩,.int .i64 z.n,.string ⟨z.fn.toArray⟩,.slice A4 z.args.length d4,.slice A5 z.lb9.length d5] 25)).drew) (Zc hmb3 _) z.op;have hlkB:=fun o=>Ziz (w:=((wr.alloc (.cells #[.int .u8 z.op,.string ⟨z.dst.toArray⟩,.string ⟨z.a.toArray⟩,.string ⟨z.b.toArray⟩,.int .i64 z.n,.string ⟨z.fn.toArray⟩,.slice A4 z.args.length d4,.slice A5 z.lb9.length d5] 25)).alloc o).drew) (Zc (Zc hmb3 _) _) z.op
          have hwl3:wb<wr.heap.size:=by omega
          have c1:=cur hb hlt c1w;rw[hvm] at c1;have Hb:=hid hb;unfold shpV at hlkA hlkB;clear hb hmb3;go_upto_region 14 with (fail)
          go_region;clear hlkA hlkB;go_upto_region 15 with (fail)
          obtain⟨wx0,hwx0⟩:∃ wx0:World,wx0=((wr.alloc (.cells #[.int .u8 z.op,.string ⟨z.dst.toArray⟩,.string ⟨z.a.toArray⟩,.string ⟨z.b.toArray⟩,.int .i64 z.n,.string ⟨z.fn.toArray⟩,.slice A4 z.args.length d4,.slice A5 z.lb9.length d5] 25)).alloc (.cells #[.bool (Ym z.op).dst,.bool (Ym z.op).a,.bool (Ym z.op).b,.bool (Ym z.op).n,.bool (Ym z.op).fn,.bool (Ym z.op).args,.bool (Ym z.op).lb9] 211)).drew:=⟨_,rfl⟩
          obtain⟨gx,hgx⟩:∃ gx,gx=wr.heap.size:=⟨_,rfl⟩
          obtain⟨gs,hgs⟩:∃ gs,gs=wr.heap.size+1:=⟨_,rfl⟩
          rw[<-hwx0,<-hgs,<-hgx]
          have HX:Hid (BnX (w.alloc (.cells z3 41)) gx gs #[.int .u8 z.op,.string ⟨z.dst.toArray⟩,.string ⟨z.a.toArray⟩,.string ⟨z.b.toArray⟩,.int .i64 z.n,.string ⟨z.fn.toArray⟩,.slice A4 z.args.length d4,.slice A5 z.lb9.length d5]
                       #[.bool (Ym z.op).dst,.bool (Ym z.op).a,.bool (Ym z.op).b,.bool (Ym z.op).n,.bool (Ym z.op).fn,.bool (Ym z.op).args,.bool (Ym z.op).lb9] wx0):=by
           rw[hwx0,hgx,hgs];have h1:=La wr (.cells #[.int .u8 z.op,.string ⟨z.dst.toArray⟩,.string ⟨z.a.toArray⟩,.string ⟨z.b.toArray⟩,.int .i64 z.n,.string ⟨z.fn.toArray⟩,.slice A4 z.args.length d4,.slice A5 z.lb9.length d5] 25);have h2:=La (wr.alloc (.cells #[.int .u8 z.op,.string ⟨z.dst.toArray⟩,.string ⟨z.a.toArray⟩,.string ⟨z.b.toArray⟩,.int .i64 z.n,.string ⟨z.fn.toArray⟩,.slice A4 z.args.length d4,.slice A5 z.lb9.length d5] 25)) (.cells #[.bool (Ym z.op).dst,.bool (Ym z.op).a,.bool (Ym z.op).b,.bool (Ym z.op).n,.bool (Ym z.op).fn,.bool (Ym z.op).args,.bool (Ym z.op).lb9] 211);rw[World.size_alloc] at h2;exact⟨Zc h1 _,h2,Zf (Zd (Zd hg3.out _) _)⟩
          have hgw:w.heap.size<gx:=by omega
          have hi3:=hf3;have Hi3:=hid hi3;clear hwx0 hgx hgs hb1 hb2 hsz hne0 hbne3 e0 e1 e2 e3 e4 e5 e6 e7 c1 hwl3 hml3 hi3
          go_cut [11] (fun s11 wx=>s11=.bool (wr1 z)/\Hid (BnX (w.alloc (.cells z3 41)) gx gs #[.int .u8 z.op,.string ⟨z.dst.toArray⟩,.string ⟨z.a.toArray⟩,.string ⟨z.b.toArray⟩,.int .i64 z.n,.string ⟨z.fn.toArray⟩,.slice A4 z.args.length d4,.slice A5 z.lb9.length d5]
                                                           #[.bool (Ym z.op).dst,.bool (Ym z.op).a,.bool (Ym z.op).b,.bool (Ym z.op).n,.bool (Ym z.op).fn,.bool (Ym z.op).args,.bool (Ym z.op).lb9] wx))
          case first=>
           have hX:=HX.out;obtain⟨k1,k2⟩:=Za hX.x;obtain⟨k3,k4⟩:=Za hX.s;clear k2 k4;have hbD:=fun w=>Zew false z.dst w Hi3.out.dst
           have hbF:=fun w=>Zew false z.fn w Hi3.out.fn
           have hbA:=fun w=>Zew true z.a w Hi3.out.a
           have hbB:=fun w=>Zew true z.b w Hi3.out.b
           have hsc:=Zti z.op;simp only[List.mem_cons,Prod.mk.injEq,List.not_mem_nil,or_false] at hsc
           rcases hsc with ⟨q1,q2,q3,q4⟩|⟨q1,q2,q3,q4⟩|⟨q1,q2,q3,q4⟩|⟨q1,q2,q3,q4⟩|⟨q1,q2,q3,q4⟩|⟨q1,q2,q3,q4⟩
           ·cases rdst:Qt false z.dst with
            |true=>
             rw[rdst] at hbD;have HR:=hid (show wr1 z=true by simp[wr1,q1,q2,q3,q4,rdst]);clear rdst;go_wp2_with (first|(go_at_call 157;(first|(with_reducible refine (hbD _).mono ?_)|(with_reducible refine (hbF _).mono ?_)|(with_reducible refine (hbA _).mono ?_)|(with_reducible refine (hbB _).mono ?_));rintro e w' ⟨rfl,hb9⟩;replace hX:=hX.step hb9;obtain⟨k1,k2⟩:=Za hX.x;obtain⟨k3,k4⟩:=Za hX.s;clear k2 k4));go_meet;exact⟨by rw[HR.out];try rfl,hX⟩
            |false=>
             rw[rdst] at hbD;have HR:=hid (show wr1 z=false by simp[wr1,q1,q2,q3,q4,rdst]);clear rdst;go_wp2_with (first|(go_at_call 157;(first|(with_reducible refine (hbD _).mono ?_)|(with_reducible refine (hbF _).mono ?_)|(with_reducible refine (hbA _).mono ?_)|(with_reducible refine (hbB _).mono ?_));rintro e w' ⟨rfl,hb9⟩;replace hX:=hX.step hb9;obtain⟨k1,k2⟩:=Za hX.x;obtain⟨k3,k4⟩:=Za hX.s;clear k2 k4));go_meet;exact⟨by rw[HR.out];try rfl,hX⟩
           ·cases rdst:Qt false z.dst with
            |true=>
             rw[rdst] at hbD;have HR:=hid (show wr1 z=true by simp[wr1,q1,q2,q3,q4,rdst]);clear rdst;go_wp2_with (first|(go_at_call 157;(first|(with_reducible refine (hbD _).mono ?_)|(with_reducible refine (hbF _).mono ?_)|(with_reducible refine (hbA _).mono ?_)|(with_reducible refine (hbB _).mono ?_));rintro e w' ⟨rfl,hb9⟩;replace hX:=hX.step hb9;obtain⟨k1,k2⟩:=Za hX.x;obtain⟨k3,k4⟩:=Za hX.s;clear k2 k4));go_meet;exact⟨by rw[HR.out];try rfl,hX⟩
            |false=>
             rw[rdst] at hbD
             cases rfn:Qt false z.fn with
             |true=>
              rw[rfn] at hbF;have HR:=hid (show wr1 z=true by simp[wr1,q1,q2,q3,q4,rdst,rfn]);clear rdst rfn;go_wp2_with (first|(go_at_call 157;(first|(with_reducible refine (hbD _).mono ?_)|(with_reducible refine (hbF _).mono ?_)|(with_reducible refine (hbA _).mono ?_)|(with_reducible refine (hbB _).mono ?_));rintro e w' ⟨rfl,hb9⟩;replace hX:=hX.step hb9;obtain⟨k1,k2⟩:=Za hX.x;obtain⟨k3,k4⟩:=Za hX.s;clear k2 k4));go_meet;exact⟨by rw[HR.out];try rfl,hX⟩
             |false=>
              rw[rfn] at hbF;have HR:=hid (show wr1 z=false by simp[wr1,q1,q2,q3,q4,rdst,rfn]);clear rdst rfn;go_wp2_with (first|(go_at_call 157;(first|(with_reducible refine (hbD _).mono ?_)|(with_reducible refine (hbF _).mono ?_)|(with_reducible refine (hbA _).mono ?_)|(with_reducible refine (hbB _).mono ?_));rintro e w' ⟨rfl,hb9⟩;replace hX:=hX.step hb9;obtain⟨k1,k2⟩:=Za hX.x;obtain⟨k3,k4⟩:=Za hX.s;clear k2 k4));go_meet;exact⟨by rw[HR.out];try rfl,hX⟩
           ·cases rdst:Qt false z.dst with
            |true=>
             rw[rdst] at hbD;have HR:=hid (show wr1 z=true by simp[wr1,q1,q2,q3,q4,rdst]);clear rdst;go_wp2_with (first|(go_at_call 157;(first|(with_reducible refine (hbD _).mono ?_)|(with_reducible refine (hbF _).mono ?_)|(with_reducible refine (hbA _).mono ?_)|(with_reducible refine (hbB _).mono ?_));rintro e w' ⟨rfl,hb9⟩;replace hX:=hX.step hb9;obtain⟨k1,k2⟩:=Za hX.x;obtain⟨k3,k4⟩:=Za hX.s;clear k2 k4));go_meet;exact⟨by rw[HR.out];try rfl,hX⟩
            |false=>
             rw[rdst] at hbD
             cases ra:Qt true z.a with
             |true=>
              rw[ra] at hbA;have HR:=hid (show wr1 z=true by simp[wr1,q1,q2,q3,q4,rdst,ra]);clear rdst ra;go_wp2_with (first|(go_at_call 157;(first|(with_reducible refine (hbD _).mono ?_)|(with_reducible refine (hbF _).mono ?_)|(with_reducible refine (hbA _).mono ?_)|(with_reducible refine (hbB _).mono ?_));rintro e w' ⟨rfl,hb9⟩;replace hX:=hX.step hb9;obtain⟨k1,k2⟩:=Za hX.x;obtain⟨k3,k4⟩:=Za hX.s;clear k2 k4));go_meet;exact⟨by rw[HR.out];try rfl,hX⟩
             |false=>
              rw[ra] at hbA;have HR:=hid (show wr1 z=false by simp[wr1,q1,q2,q3,q4,rdst,ra]);clear rdst ra;go_wp2_with (first|(go_at_call 157;(first|(with_reducible refine (hbD _).mono ?_)|(with_reducible refine (hbF _).mono ?_)|(with_reducible refine (hbA _).mono ?_)|(with_reducible refine (hbB _).mono ?_));rintro e w' ⟨rfl,hb9⟩;replace hX:=hX.step hb9;obtain⟨k1,k2⟩:=Za hX.x;obtain⟨k3,k4⟩:=Za hX.s;clear k2 k4));go_meet;exact⟨by rw[HR.out];try rfl,hX⟩
           ·cases ra:Qt true z.a with
            |true=>
             rw[ra] at hbA;have HR:=hid (show wr1 z=true by simp[wr1,q1,q2,q3,q4,ra]);clear ra;go_wp2_with (first|(go_at_call 157;(first|(with_reducible refine (hbD _).mono ?_)|(with_reducible refine (hbF _).mono ?_)|(with_reducible refine (hbA _).mono ?_)|(with_reducible refine (hbB _).mono ?_));rintro e w' ⟨rfl,hb9⟩;replace hX:=hX.step hb9;obtain⟨k1,k2⟩:=Za hX.x;obtain⟨k3,k4⟩:=Za hX.s;clear k2 k4));go_meet;exact⟨by rw[HR.out];try rfl,hX⟩
            |false=>
             rw[ra] at hbA
             cases rb:Qt true z.b with
             |true=>
              rw[rb] at hbB;have HR:=hid (show wr1 z=true by simp[wr1,q1,q2,q3,q4,ra,rb]);clear ra rb;go_wp2_with (first|(go_at_call 157;(first|(with_reducible refine (hbD _).mono ?_)|(with_reducible refine (hbF _).mono ?_)|(with_reducible refine (hbA _).mono ?_)|(with_reducible refine (hbB _).mono ?_));rintro e w' ⟨rfl,hb9⟩;replace hX:=hX.step hb9;obtain⟨k1,k2⟩:=Za hX.x;obtain⟨k3,k4⟩:=Za hX.s;clear k2 k4));go_meet;exact⟨by rw[HR.out];try rfl,hX⟩
             |false=>
              rw[rb] at hbB;have HR:=hid (show wr1 z=false by simp[wr1,q1,q2,q3,q4,ra,rb]);clear ra rb;go_wp2_with (first|(go_at_call 157;(first|(with_reducible refine (hbD _).mono ?_)|(with_reducible refine (hbF _).mono ?_)|(with_reducible refine (hbA _).mono ?_)|(with_reducible refine (hbB _).mono ?_));rintro e w' ⟨rfl,hb9⟩;replace hX:=hX.step hb9;obtain⟨k1,k2⟩:=Za hX.x;obtain⟨k3,k4⟩:=Za hX.s;clear k2 k4));go_meet;exact⟨by rw[HR.out];try rfl,hX⟩
           ·have HR:=hid (show wr1 z=false by simp[wr1,q1,q2,q3,q4]);go_wp2_with (first|(go_at_call 157;(first|(with_reducible refine (hbD _).mono ?_)|(with_reducible refine (hbF _).mono ?_)|(with_reducible refine (hbA _).mono ?_)|(with_reducible refine (hbB _).mono ?_));rintro e w' ⟨rfl,hb9⟩;replace hX:=hX.step hb9;obtain⟨k1,k2⟩:=Za hX.x;obtain⟨k3,k4⟩:=Za hX.s;clear k2 k4));go_meet;exact⟨by rw[HR.out];try rfl,hX⟩
           ·cases ra:Qt true z.a with
            |true=>
             rw[ra] at hbA;have HR:=hid (show wr1 z=true by simp[wr1,q1,q2,q3,q4,ra]);clear ra;go_wp2_with (first|(go_at_call 157;(first|(with_reducible refine (hbD _).mono ?_)|(with_reducible refine (hbF _).mono ?_)|(with_reducible refine (hbA _).mono ?_)|(with_reducible refine (hbB _).mono ?_));rintro e w' ⟨rfl,hb9⟩;replace hX:=hX.step hb9;obtain⟨k1,k2⟩:=Za hX.x;obtain⟨k3,k4⟩:=Za hX.s;clear k2 k4));go_meet;exact⟨by rw[HR.out];try rfl,hX⟩
            |false=>
             rw[ra] at hbA;have HR:=hid (show wr1 z=false by simp[wr1,q1,q2,q3,q4,ra]);clear ra;go_wp2_with (first|(go_at_call 157;(first|(with_reducible refine (hbD _).mono ?_)|(with_reducible refine (hbF _).mono ?_)|(with_reducible refine (hbA _).mono ?_)|(with_reducible refine (hbB _).mono ?_));rintro e w' ⟨rfl,hb9⟩;replace hX:=hX.step hb9;obtain⟨k1,k2⟩:=Za hX.x;obtain⟨k3,k4⟩:=Za hX.s;clear k2 k4));go_meet;exact⟨by rw[HR.out];try rfl,hX⟩
          case rest=>
           obtain⟨rfl,hX0⟩:=hcut;go_upto_region 16 with (fail)
           go_cut [11] (fun s11 wx=>s11=.bool (Yn z)/\Hid (BnX (w.alloc (.cells z3 41)) gx gs #[.int .u8 z.op,.string ⟨z.dst.toArray⟩,.string ⟨z.a.toArray⟩,.string ⟨z.b.toArray⟩,.int .i64 z.n,.string ⟨z.fn.toArray⟩,.slice A4 z.args.length d4,.slice A5 z.lb9.length d5]
                                                                       #[.bool (Ym z.op).dst,.bool (Ym z.op).a,.bool (Ym z.op).b,.bool (Ym z.op).n,.bool (Ym z.op).fn,.bool (Ym z.op).args,.bool (Ym z.op).lb9] wx))
           case first=>
            have hX:=hX0.out;obtain⟨k1,k2⟩:=Za hX.x;obtain⟨k3,k4⟩:=Za hX.s;clear k2 k4;have hbA:=fun W (h:Below w.heap.size w W)=>Zjp true (.slice A4 z.args.length d4) z.args B W (Nat.le_trans hB h.size) (Hi3.out.args.below strR.keeps h hB)
            have hbL:=fun W (h:Below w.heap.size w W)=>Zjp false (.slice A5 z.lb9.length d5) z.lb9 B W (Nat.le_trans hB h.size) (Hi3.out.lb9.below strR.keeps h hB)
            have hcA:=fun W (h:Below w.heap.size w W)=>K6 (.slice A4 z.args.length d4) z.args [] W B (Hi3.out.args.below strR.keeps h hB)
            have hcL:=fun W (h:Below w.heap.size w W)=>K6 (.slice A5 z.lb9.length d5) z.lb9 [] W B (Hi3.out.lb9.below strR.keeps h hB)
            cases q1:wr1 z with
            |true=>
             have HR:=hid (show Yn z=true by rw[Ys,q1];rfl);go_wp2_with fail;go_meet;exact⟨by rw[HR.out];try rfl,hX⟩
            |false=>
             cases qa:(Ym z.op).args with
             |true=>
              cases ql:(Ym z.op).lb9 with
              |true=>
               cases ra:Zac true z.args with
               |true=>
                rw[ra] at hbA;have HR:=hid (show Yn z=true by rw[Ys,q1,qa,ql,ra];rfl);clear ra;go_wp2_with (first|(go_at_call 157;(first|(with_reducible refine (hbA _ hX.low).mono ?_)|(with_reducible refine (hbL _ hX.low).mono ?_));rintro e w' ⟨rfl,hb9⟩;replace hX:=hX.step hb9;obtain⟨k1,k2⟩:=Za hX.x;obtain⟨k3,k4⟩:=Za hX.s;clear k2 k4)|(go_at_call 132;(first|(with_reducible refine (hcA _ hX.low).mono ?_)|(with_reducible refine (hcL _ hX.low).mono ?_));rintro e w' ⟨rfl,rfl⟩));go_meet;exact⟨by rw[HR.out];try rfl,hX⟩
               |false=>
                rw[ra] at hbA
                cases ca:z.args.contains [] with
                |true=>
                 rw[ca] at hcA;have HR:=hid (show Yn z=true by rw[Ys,q1,qa,ql,ra,ca];rfl);clear ra ca;go_wp2_with (first|(go_at_call 157;(first|(with_reducible refine (hbA _ hX.low).mono ?_)|(with_reducible refine (hbL _ hX.low).mono ?_));rintro e w' ⟨rfl,hb9⟩;replace hX:=hX.step hb9;obtain⟨k1,k2⟩:=Za hX.x;obtain⟨k3,k4⟩:=Za hX.s;clear k2 k4)|(go_at_call 132;(first|(with_reducible refine (hcA _ hX.low).mono ?_)|(with_reducible refine (hcL _ hX.low).mono ?_));rintro e w' ⟨rfl,rfl⟩));go_meet;exact⟨by rw[HR.out];try rfl,hX⟩
                |false=>
                 rw[ca] at hcA
                 cases rl:Zac false z.lb9 with
                 |true=>
                  rw[rl] at hbL;have HR:=hid (show Yn z=true by rw[Ys,q1,qa,ql,ra,ca,rl];rfl);clear ra ca rl;go_wp2_with (first|(go_at_call 157;(first|(with_reducible refine (hbA _ hX.low).mono ?_)|(with_reducible refine (hbL _ hX.low).mono ?_));rintro e w' ⟨rfl,hb9⟩;replace hX:=hX.step hb9;obtain⟨k1,k2⟩:=Za hX.x;obtain⟨k3,k4⟩:=Za hX.s;clear k2 k4)|(go_at_call 132;(first|(with_reducible refine (hcA _ hX.low).mono ?_)|(with_reducible refine (hcL _ hX.low).mono ?_));rintro e w' ⟨rfl,rfl⟩));go_meet;exact⟨by rw[HR.out];try rfl,hX⟩
                 |false=>
                  rw[rl] at hbL
                  cases cl:z.lb9.contains [] with
                  |true=>
                   rw[cl] at hcL;have HR:=hid (show Yn z=true by rw[Ys,q1,qa,ql,ra,ca,rl,cl];rfl);clear ra ca rl cl;go_wp2_with (first|(go_at_call 157;(first|(with_reducible refine (hbA _ hX.low).mono ?_)|(with_reducible refine (hbL _ hX.low).mono ?_));rintro e w' ⟨rfl,hb9⟩;replace hX:=hX.step hb9;obtain⟨k1,k2⟩:=Za hX.x;obtain⟨k3,k4⟩:=Za hX.s;clear k2 k4)|(go_at_call 132;(first|(with_reducible refine (hcA _ hX.low).mono ?_)|(with_reducible refine (hcL _ hX.low).mono ?_));rintro e w' ⟨rfl,rfl⟩));go_meet;exact⟨by rw[HR.out];try rfl,hX⟩
                  |false=>
                   rw[cl] at hcL;have HR:=hid (show Yn z=false by rw[Ys,q1,qa,ql,ra,ca,rl,cl];rfl);clear ra ca rl cl;go_wp2_with (first|(go_at_call 157;(first|(with_reducible refine (hbA _ hX.low).mono ?_)|(with_reducible refine (hbL _ hX.low).mono ?_));rintro e w' ⟨rfl,hb9⟩;replace hX:=hX.step hb9;obtain⟨k1,k2⟩:=Za hX.x;obtain⟨k3,k4⟩:=Za hX.s;clear k2 k4)|(go_at_call 132;(first|(with_reducible refine (hcA _ hX.low).mono ?_)|(with_reducible refine (hcL _ hX.low).mono ?_));rintro e w' ⟨rfl,rfl⟩));go_meet;exact⟨by rw[HR.out];try rfl,hX⟩
              |false=>
               cases ra:Zac true z.args with
               |true=>
                rw[ra] at hbA;have HR:=hid (show Yn z=true by rw[Ys,q1,qa,ql,ra];rfl);clear ra;go_wp2_with (first|(go_at_call 157;(first|(with_reducible refine (hbA _ hX.low).mono ?_)|(with_reducible refine (hbL _ hX.low).mono ?_));rintro e w' ⟨rfl,hb9⟩;replace hX:=hX.step hb9;obtain⟨k1,k2⟩:=Za hX.x;obtain⟨k3,k4⟩:=Za hX.s;clear k2 k4)|(go_at_call 132;(first|(with_reducible refine (hcA _ hX.low).mono ?_)|(with_reducible refine (hcL _ hX.low).mono ?_));rintro e w' ⟨rfl,rfl⟩));go_meet;exact⟨by rw[HR.out];try rfl,hX⟩
               |false=>
                rw[ra] at hbA
                cases ca:z.args.contains [] with
                |true=>
                 rw[ca] at hcA;have HR:=hid (show Yn z=true by rw[Ys,q1,qa,ql,ra,ca];rfl);clear ra ca;go_wp2_with (first|(go_at_call 157;(first|(with_reducible refine (hbA _ hX.low).mono ?_)|(with_reducible refine (hbL _ hX.low).mono ?_));rintro e w' ⟨rfl,hb9⟩;replace hX:=hX.step hb9;obtain⟨k1,k2⟩:=Za hX.x;obtain⟨k3,k4⟩:=Za hX.s;clear k2 k4)|(go_at_call 132;(first|(with_reducible refine (hcA _ hX.low).mono ?_)|(with_reducible refine (hcL _ hX.low).mono ?_));rintro e w' ⟨rfl,rfl⟩));go_meet;exact⟨by rw[HR.out];try rfl,hX⟩
                |false=>
                 rw[ca] at hcA;have HR:=hid (show Yn z=false by rw[Ys,q1,qa,ql,ra,ca];rfl);clear ra ca;go_wp2_with (first|(go_at_call 157;(first|(with_reducible refine (hbA _ hX.low).mono ?_)|(with_reducible refine (hbL _ hX.low).mono ?_));rintro e w' ⟨rfl,hb9⟩;replace hX:=hX.step hb9;obtain⟨k1,k2⟩:=Za hX.x;obtain⟨k3,k4⟩:=Za hX.s;clear k2 k4)|(go_at_call 132;(first|(with_reducible refine (hcA _ hX.low).mono ?_)|(with_reducible refine (hcL _ hX.low).mono ?_));rintro e w' ⟨rfl,rfl⟩));go_meet;exact⟨by rw[HR.out];try rfl,hX⟩
             |false=>
              cases ql:(Ym z.op).lb9 with
              |true=>
               cases rl:Zac false z.lb9 with
               |true=>
                rw[rl] at hbL;have HR:=hid (show Yn z=true by rw[Ys,q1,qa,ql,rl];rfl);clear rl;go_wp2_with (first|(go_at_call 157;(first|(with_reducible refine (hbA _ hX.low).mono ?_)|(with_reducible refine (hbL _ hX.low).mono ?_));rintro e w' ⟨rfl,hb9⟩;replace hX:=hX.step hb9;obtain⟨k1,k2⟩:=Za hX.x;obtain⟨k3,k4⟩:=Za hX.s;clear k2 k4)|(go_at_call 132;(first|(with_reducible refine (hcA _ hX.low).mono ?_)|(with_reducible refine (hcL _ hX.low).mono ?_));rintro e w' ⟨rfl,rfl⟩));go_meet;exact⟨by rw[HR.out];try rfl,hX⟩
               |false=>
                rw[rl] at hbL
                cases cl:z.lb9.contains [] with
                |true=>
                 rw[cl] at hcL;have HR:=hid (show Yn z=true by rw[Ys,q1,qa,ql,rl,cl];rfl);clear rl cl;go_wp2_with (first|(go_at_call 157;(first|(with_reducible refine (hbA _ hX.low).mono ?_)|(with_reducible refine (hbL _ hX.low).mono ?_));rintro e w' ⟨rfl,hb9⟩;replace hX:=hX.step hb9;obtain⟨k1,k2⟩:=Za hX.x;obtain⟨k3,k4⟩:=Za hX.s;clear k2 k4)|(go_at_call 132;(first|(with_reducible refine (hcA _ hX.low).mono ?_)|(with_reducible refine (hcL _ hX.low).mono ?_));rintro e w' ⟨rfl,rfl⟩));go_meet;exact⟨by rw[HR.out];try rfl,hX⟩
                |false=>
                 rw[cl] at hcL;have HR:=hid (show Yn z=false by rw[Ys,q1,qa,ql,rl,cl];rfl);clear rl cl;go_wp2_with (first|(go_at_call 157;(first|(with_reducible refine (hbA _ hX.low).mono ?_)|(with_reducible refine (hbL _ hX.low).mono ?_));rintro e w' ⟨rfl,hb9⟩;replace hX:=hX.step hb9;obtain⟨k1,k2⟩:=Za hX.x;obtain⟨k3,k4⟩:=Za hX.s;clear k2 k4)|(go_at_call 132;(first|(with_reducible refine (hcA _ hX.low).mono ?_)|(with_reducible refine (hcL _ hX.low).mono ?_));rintro e w' ⟨rfl,rfl⟩));go_meet;exact⟨by rw[HR.out];try rfl,hX⟩
              |false=>
               have HR:=hid (show Yn z=false by rw[Ys,q1,qa,ql];rfl)
               skip
               go_wp2_with (first|(go_at_call 157;(first|(with_reducible refine (hbA _ hX.low).mono ?_)|(with_reducible refine (hbL _ hX.low).mono ?_));rintro e w' ⟨rfl,hb9⟩;replace hX:=hX.step hb9;obtain⟨k1,k2⟩:=Za hX.x;obtain⟨k3,k4⟩:=Za hX.s;clear k2 k4)|(go_at_call 132;(first|(with_reducible refine (hcA _ hX.low).mono ?_)|(with_reducible refine (hcL _ hX.low).mono ?_));rintro e w' ⟨rfl,rfl⟩));go_meet;exact⟨by rw[HR.out];try rfl,hX⟩
           case rest=>
            obtain⟨rfl,hX1⟩:=hcut
            cases hw:Yn z with
            |true=>
             have HC:=hid (show bnC k k2 k3 z=some (k,k2,k3) by rw[bnC,if_pos hw]);obtain⟨hb1,hb2⟩:=Za (Xu hX1.out.g);clear hw;go_wp2_with fail;refine bodyPost_ret (v:=ptV (some (k,k2,k3))) (by simp[results,Tryz.results108,go_sem,ptV,ptC,hb1]) rfl ⟨?_,?_⟩
             ·rw[Vp,Zo hP.out Hx.out (HF.out.trans (Zo hP2.out Hy.out (HB.out.trans (Zo hP3.out Hz.out HC.out))))]
             ·repeat (first|exact Zt hX1.out.g|refine Zi ?_ (Lf _) _)
            |false=>
             have HC:=hid (show bnC k k2 k3 z=none by rw[bnC,if_neg (by rw[hw];simp)]);clear hw;go_wp2_with fail;go_roundw
             case rel=>exact⟨k3+1,by omega,by go_num,hX1.out.g,Zw Hz.out hP3.out HC.out⟩
             case measure=>simp[intOf];omega
         ·have HBn:=hid (HB.out.trans (Zx (Z9 hl3 hP3.out)));clear hblk;go_wp2_with fail;go_roundw
          case rel=>exact⟨k2+1,by omega,by go_num,hg3.out,Zw Hy.out hP2.out HBn.out⟩
          case measure=>simp[intOf];omega
      ·have HFn:=hid (HF.out.trans (Zx (Z9 hl2 hP2.out)));clear hblk;go_wp2_with fail;go_roundw
       case rel=>exact⟨k+1,by omega,by go_num,hg2.out,Zw Hx.out hP.out HFn.out⟩
       case measure=>simp[intOf];omega
  ·obtain⟨hb1,hb2⟩:=Za hblk;go_wp2_with fail;refine bodyPost_ret (v:=ptV none) (by simp[results,Tryz.results108,go_sem,ptV,ptC,hb1]) rfl ⟨?_,?_⟩
   ·rw[Vp,Zx (Z9 hl hP.out)]
   ·repeat (first|exact Zt hg.out|apply Zd|refine Zg ?_ _|refine Zi ?_ (Lf _) _)
end

/- The contracts of body. Conditions in it. -/
import Derived.Test.YtlcogjllnbfneaaGreatESat
import Derived.Deep.DeepCutAuto
import Derived.Laws.EntriesVeiled
set_option maxHeartbeats 4000000
set_option maxRecDepth 100000
set_option linter.all false
namespace Go.Proofs.YtlcogjllnbfneaaGreat
open Lib(hid)
open Go.RowKit Go.Shelf
theorem Zgn (y:GBlk) (vc:Value) (s:Str) (c:Nat) (w:World) (B:Nat) (hy:BlkAt w B y vc) (hs:s.length<=9223372036854775807) (hc:w.cell? ⟨c,0,none⟩=some (.string ⟨s.toArray⟩)) (hcl:c<w.heap.size):
  Calls Tryz.prog 140 #[.agg #[.string ⟨y.label.toArray⟩,vc],.pointer (some ⟨c,0,none⟩)] w fun e w'=>e=.returned (.bool (y.label == s))/\Below w.heap.size w w':=by
 obtain⟨A5,d5,q5,_,_,_,_⟩:=hy.code.open_;subst q5;have hcn:c≠w.heap.size:=by omega
 go_enter Tryz.func140,Tryz.ntmps140;go_wp2;go_ret;exact⟨by simp,(Below.refl _ w).alloc (Lf _) _⟩
theorem Zbk:∀ args w,(callFunc 140 args).run Tryz.prog w=.ok (.enter 140 args) w:=enters_of Tryz.func140 (by kernel_rfl) rfl
theorem Zkf (f:GFun) (b B c:Nat) (w:World) (s:Str) (hs:s.length<=9223372036854775807) (h:Body w B b f) (hB:B<=w.heap.size) (hc:w.cell? ⟨c,0,none⟩=some (.pointer (some ⟨b,0,none⟩))) (hcl:c<w.heap.size):
  Calls Tryz.prog 138 #[.string ⟨s.toArray⟩,.pointer (some ⟨c,0,none⟩)] w fun e w'=>e=.returned (.int .i64 (idxOf (fun b=>b.label == s) f.bk9))/\Below w.heap.size w w':=by
 obtain⟨A1,d1,A2,d2,S,S2,O,M,order,o,h⟩:=h;obtain⟨j1,_⟩:=Za h.blk;have e2:w.cell? ⟨b,2,none⟩=some (.slice A2 f.bk9.length d2):=j1 2;have hlt:=h.lt;have hb1:Below w.heap.size w (w.alloc (.cells #[.string ⟨s.toArray⟩] 9)):=(Below.refl _ w).alloc (Lf _) _;have hN:=(Za (La w (.cells #[.string ⟨s.toArray⟩] 9))).1 0;have hidx:=Kn (.slice A2 f.bk9.length d2) f.bk9 140 #[.pointer (some ⟨w.heap.size,0,none⟩)] (w.alloc (.cells #[.string ⟨s.toArray⟩] 9)) B (fun b=>b.label == s) (by simp;omega) (h.fn.bk9.below blkR.keeps hb1 hB) Zbk
  (fun x vc W hW hx=>by
   have hw:=hW.size
   simp only[World.size_alloc] at hw
   exact (Zgn x vc s w.heap.size W B hx hs ((hW.cell (p:=⟨w.heap.size,0,none⟩) (by simp)).trans hN) (by omega)).mono fun e w' h=>⟨h.1,hW.trans (h.2.mono hW.size)⟩)
 have hcn:c≠w.heap.size:=by omega
 have hbn:b≠w.heap.size:=by omega
 have hbl:b<w.heap.size:=by omega
 clear h j1 hN hb1;go_enter Tryz.func138,Tryz.ntmps138;go_wp2_with (go_at_call 139;refine hidx.mono ?_;rintro e w' ⟨rfl,hb'⟩);go_ret;exact⟨rfl,((Below.refl _ w).alloc (Lf _) _).trans (hb'.mono (by simp))⟩
theorem Zgo (f:GFun) (b B c c1 c2:Nat) (w:World) (s:Str) (k i:Nat) (hs:s.length<=9223372036854775807) (h:Body w B b f) (hB:B<=w.heap.size) (hok:FOk f) (hk:k<f.bk9.length) (hi:i<=4096)
  (hc:w.cell? ⟨c,0,none⟩=some (.pointer (some ⟨b,0,none⟩))) (hc1:w.cell? ⟨c1,0,none⟩=some (.int .i64 k)) (hc2:w.cell? ⟨c2,0,none⟩=some (.int .i64 i)):
  Calls Tryz.prog 144 #[.string ⟨s.toArray⟩,.pointer (some ⟨c,0,none⟩),.pointer (some ⟨c1,0,none⟩),.pointer (some ⟨c2,0,none⟩)] w fun e w'=>e=.returned (.bool (!(atB f s k i)))/\Below w.heap.size w w':=by
 obtain⟨q1,q2,q3⟩:=Zpz hok.ne hok.code s;have hat:=at_any f b B w s k i hk hok.of.len (by omega) h hB q1 q2 (by omega) hs;clear h hok q1 q2 q3;go_enter Tryz.func144,Tryz.ntmps144;go_wp2_with (go_at_call 145;refine hat.mono ?_;rintro e w' ⟨rfl,hb'⟩);go_ret;exact⟨rfl,Zk hb'⟩
theorem Zbl:∀ args w,(callFunc 144 args).run Tryz.prog w=.ok (.enter 144 args) w:=enters_of Tryz.func144 (by kernel_rfl) rfl
theorem Zmq {f:GFun} {x:GIns} (h:∀ j,j<x.args.length->Xk f (x.args[j]?.getD []) ((Yd f.bk9 (x.lb9[j]?.getD [])).getD 0)=true):Zba f x=false:=by
 unfold Zba;rw[List.any_eq_false];intro j hj;have:=h j (by simpa using hj);simp[this]
theorem Zmr {f:GFun} {x:GIns} {j:Nat} (hj:j<x.args.length) (h:Xk f (x.args[j]?.getD []) ((Yd f.bk9 (x.lb9[j]?.getD [])).getD 0)=false):Zba f x=true:=by
 unfold Zba;rw[List.any_eq_true];exact⟨j,by simpa using hj,by simp[h]⟩
theorem Zkg (f:GFun) (b B c c4:Nat) (w:World) (k i:Nat) (x:GIns) (va vl:Value) (h:Body w B b f) (hB:B<=w.heap.size) (hok:FOk f) (hk:k<f.bk9.length) (hi4:i<=4096)
  (hphi:x.op=6->x.args.length=x.lb9.length) (hlab:∀ s∈x.lb9,∃ k,Yd f.bk9 s=some k)
  (hc:w.cell? ⟨c,0,none⟩=some (.pointer (some ⟨b,0,none⟩))) (hcl:c<w.heap.size) (hc4:w.cell? ⟨c4,0,none⟩=some (.func (.func 138) #[] #[.pointer (some ⟨c,0,none⟩)])) (hcl4:c4<w.heap.size)
  (hi:InsAt w B x va vl):
  Calls Tryz.prog 141 #[.int .i64 k,.int .i64 i,Uh x va vl,.pointer (some ⟨c,0,none⟩),.pointer (some ⟨c4,0,none⟩)] w fun e w'=>e=.returned (.bool (X6 f k i x))/\Below w.heap.size w w':=by
 obtain⟨A4,d4,q4,m4,_,_,hS⟩:=hi.args.open_;obtain⟨A5,d5,q5,m5,_,_,hL⟩:=hi.lb9.open_;subst q4;subst q5;have hale:=hi.argsLe;have haLe:=hi.a;have hbLe:=hi.b;have hsLe:∀ s∈x.args,s.length<=9223372036854775807:=fun s hs=>by
  obtain⟨j,hj,e⟩:=List.mem_iff_getElem.1 hs;obtain⟨y,_,_,h1,_,_,h2⟩:=hS.at1 hj;rw[List.getElem?_eq_getElem hj,e] at h1
  cases h1
  exact h2.2
 obtain⟨W,hW⟩:∃ W:World,W=((w.alloc (.cells #[.int .i64 k] 3)).alloc (.cells #[.int .i64 i] 3)).alloc (.cells #[.int .u8 x.op,.string ⟨x.dst.toArray⟩,.string ⟨x.a.toArray⟩,.string ⟨x.b.toArray⟩,.int .i64 x.n,.string ⟨x.fn.toArray⟩,.slice A4 x.args.length d4,.slice A5 x.lb9.length d5] 25):=⟨_,rfl⟩
 have hbW:Below w.heap.size w W:=by rw[hW];exact (((Below.refl _ w).alloc (Lf _) _).alloc (by simp) _).alloc (by simp;omega) _
 have hsW:W.heap.size=w.heap.size+3:=by rw[hW];simp
 have hz0:W.cell? ⟨w.heap.size,0,none⟩=some (.int .i64 k):=by
  have:=La w (.cells #[.int .i64 k] 3);rw[hW];exact (Za (Zc (Zc this _) _)).1 0
 have hz1:W.cell? ⟨w.heap.size+1,0,none⟩=some (.int .i64 i):=by
  have:=La (w.alloc (.cells #[.int .i64 k] 3)) (.cells #[.int .i64 i] 3);simp only[World.size_alloc] at this;rw[hW];exact (Za (Zc this _)).1 0
 have hwN:W.heap[w.heap.size+1+1]?=some (.cells #[.int .u8 x.op,.string ⟨x.dst.toArray⟩,.string ⟨x.a.toArray⟩,.string ⟨x.b.toArray⟩,.int .i64 x.n,.string ⟨x.fn.toArray⟩,.slice A4 x.args.length d4,.slice A5 x.lb9.length d5] 25 (0,0)):=by
  have:=La ((w.alloc (.cells #[.int .i64 k] 3)).alloc (.cells #[.int .i64 i] 3)) (.cells #[.int .u8 x.op,.string ⟨x.dst.toArray⟩,.string ⟨x.a.toArray⟩,.string ⟨x.b.toArray⟩,.int .i64 x.n,.string ⟨x.fn.toArray⟩,.slice A4 x.args.length d4,.slice A5 x.lb9.length d5] 25);simp only[World.size_alloc] at this;rw[hW];exact this
 have c0':W.cell? ⟨c,0,none⟩=some (.pointer (some ⟨b,0,none⟩)):=cur hbW (by omega) hc;have c4':W.cell? ⟨c4,0,none⟩=some (.func (.func 138) #[] #[.pointer (some ⟨c,0,none⟩)]):=cur hbW (by omega) hc4;have hbody:=h.below hbW hB;have HiW:=hid (hi.below hbW hB);have HL:=hid (hL.below strR.keeps hbW hB);have HS:=hid (hS.below strR.keeps hbW hB);have HbW:=hid hbW;have Hlab:=hid hlab;have i0:W.cell? ⟨w.heap.size+1+1,0,none⟩=some (.int .u8 x.op):=(Za hwN).1 0
 cases q1:x.op == 6 with
 |false=>
  obtain⟨j1,_⟩:=Za hwN;have q2:=(op6 x.op).trans (congrArg not q1);simp only[Bool.not_true,Bool.not_false] at q2
  have HR:=hid (show X6 f k i x=(Kj x).any fun s=> !(atB f s k i) by
   unfold X6
   rw[if_neg (by simpa using q1)])
  have huse:=Znf x (.slice A4 x.args.length d4) (.slice A5 x.lb9.length d5) W B HiW.out (by omega);have hcl1:∀ (s:Str) (W':World),Below W.heap.size W W'->s.length<=9223372036854775807->Calls Tryz.prog 144 #[.string ⟨s.toArray⟩,.pointer (some ⟨c,0,none⟩),.pointer (some ⟨w.heap.size,0,none⟩),.pointer (some ⟨w.heap.size+1,0,none⟩)] W' fun e w'=>e=.returned (.bool (!(atB f s k i)))/\Below W'.heap.size W' w':=
   fun s W' hW' hs=>Zgo f b B c w.heap.size (w.heap.size+1) W' s k i hs (hbody.below hW' (by omega)) (by have:=hW'.size;omega) hok hk hi4 (cur hW' (by omega) c0') (cur hW' (by omega) hz0) (cur hW' (by omega) hz1)
  have Hcl1:=hid hcl1;clear hc hc4 hi hS hL hbW hwN hz0 hz1 hbody h hok hlab hphi c0' c4' hcl1;simp only[Uh];go_enter Tryz.func141,Tryz.ntmps141;go_upto_region 1 with (fail)
  rw[<-hW];clear hW;go_upto_region 2 with (fail)
  have hcf:∀ (v2:Value) (w2:World),w2.ownsRow W.heap.size 9 1 v2 (Kj x).length ((Kj x).map encS)->Below W.heap.size W w2->
    Calls Tryz.prog 142 #[v2,.func (.func 144) #[] #[.pointer (some ⟨c,0,none⟩),.pointer (some ⟨w.heap.size,0,none⟩),.pointer (some ⟨w.heap.size+1,0,none⟩)]] w2 fun e w'=>e=.returned (.bool ((Kj x).any fun s=> !(atB f s k i)))/\Below w2.heap.size w2 w':=fun v2 w2 ho2 hb2=>by
   refine Xy v2 (Kj x) 144 _ w2 w2.heap.size (fun s=> !(atB f s k i)) (Lf _) (Qa ho2 (fun s hs=>?_)) Zbl (fun s W' hW' hs=>?_)
   ·have hs':s∈x.a::x.b::x.args:=(List.mem_filter.1 hs).1
    rcases List.mem_cons.1 hs' with rfl|hs'
    ·omega
    ·rcases List.mem_cons.1 hs' with rfl|hs'
     ·omega
     ·exact hsLe s hs'
   ·exact (Hcl1.out s W' (hb2.trans (hW'.mono hb2.size)) hs).mono fun e w' h=>⟨h.1,hW'.trans (h.2.mono hW'.size)⟩
  have Hcf:=hid hcf;clear hcf
  go_wp2_with (first
               |(go_at_call 143;refine huse.mono ?_;rintro e w2 ⟨v2,rfl,ho2,hb2⟩)
               |(go_at_call 142;refine (Hcf.out _ _ ho2 hb2).mono ?_;rintro e w3 ⟨rfl,hb3⟩))
  go_ret;exact⟨by rw[HR.out];rfl,(HbW.out.trans (hb2.mono (by omega))).trans (hb3.mono (by have:=hb2.size;omega))⟩
 |true=>
  have h6:x.op=6:=by simpa using q1
  have Hal:=hid (hphi h6);have q2:=(op6 x.op).trans (congrArg not q1);simp only[Bool.not_true,Bool.not_false] at q2;have HR:=hid (show X6 f k i x=Zba f x by unfold X6;rw[if_pos h6]);have i6:W.cell? ⟨w.heap.size+1+1,6,none⟩=some (.slice A4 x.args.length d4):=(Za hwN).1 6;have i7:W.cell? ⟨w.heap.size+1+1,7,none⟩=some (.slice A5 x.lb9.length d5):=(Za hwN).1 7;have hnd:∀ (s:Str) (W':World),s.length<=9223372036854775807->Below W.heap.size W W'->Calls Tryz.prog 138 #[.string ⟨s.toArray⟩,.pointer (some ⟨c,0,none⟩)] W' fun e w'=>e=.returned (.int .i64 (idxOf (fun b=>b.label == s) f.bk9))/\Below W'.heap.size W' w':=
   fun s W' hs hW'=>Zkf f b B c W' s hs (hbody.below hW' (by omega)) (by have:=hW'.size;omega) (cur hW' (by omega) c0') (by have:=hW'.size;omega)
  have hae:∀ (s:Str) (n:Nat) (W':World),s.length<=9223372036854775807->n<f.bk9.length->Below W.heap.size W W'->Calls Tryz.prog 146 #[.pointer (some ⟨b,0,none⟩),.string ⟨s.toArray⟩,.int .i64 n] W' fun e w'=>e=.returned (.bool (Xk f s n))/\W'.grownBy w' none:=
   fun s n W' hs hn hW'=>by
    obtain⟨d1,d2,d3⟩:=Zpz hok.ne hok.code s;exact Zih f b B W' s n hn hok.of.len (hbody.below hW' (by omega)) (by have:=hW'.size;omega) d1 d2 (by omega) hs
  have Hnd:=hid hnd;have Hae:=hid hae;clear hc hc4 hi hS hL hbW hwN hz0 hz1 hbody h hok hlab hphi hnd hae h6;simp only[Uh];go_enter Tryz.func141,Tryz.ntmps141;go_upto_region 1 with (fail)
  rw[<-hW];clear hW;go_wp2_with fail;go_loopw [21] (fun s21 wr=>∃ j:Nat,s21=.int .i64 j/\j<=x.args.length/\Hid (Below W.heap.size W wr)/\Hid (∀ i,i<j->Xk f (x.args[i]?.getD []) ((Yd f.bk9 (x.lb9[i]?.getD [])).getD 0)=true)) (fun s21 _=>x.args.length-(intOf s21).toNat)
  case atStart=>exact⟨0,rfl,Ln _,Below.refl _ _,fun i hi=>by omega⟩
  case round=>
   obtain⟨j,rfl,hjl,hI,hP⟩:=hrel
   by_cases hl:j<x.args.length
   ·obtain⟨s,bS,offS,hs,rfl,hbS,hr7⟩:=HS.out.at1 hl;obtain⟨s2,bL,offL,hs2,rfl,hbL,hr8⟩:=HL.out.at1 (show j<x.lb9.length by have:=Hal.out;omega);obtain⟨n,hn⟩:=Hlab.out s2 (Ll hs2);have hnl:=V9 hn;have hlow:=hI.out;have z1:=cur hlow (by omega) hr7.1;have z2:=cur hlow (by omega) hr8.1;have z3:=cur hlow (by omega) c0';have z4:=cur hlow (by omega) c4';have z5:=cur hlow (by omega) i7;have hs1:=hr7.2;have hs3:=hr8.2;have hval:idxOf (fun b=>b.label == s2) f.bk9=n:=by rw[Zjw,hn]
    have hnd2:∀ W':World,Below W.heap.size W W'->Calls Tryz.prog 138 #[.string ⟨s2.toArray⟩,.pointer (some ⟨c,0,none⟩)] W' fun e w'=>e=.returned (.int .i64 n)/\Below W'.heap.size W' w':=fun W' hW'=>by
     have:=Hnd.out s2 W' hs3 hW'
     rwa [hval] at this
    have hae2:∀ W':World,Below W.heap.size W W'->Calls Tryz.prog 146 #[.pointer (some ⟨b,0,none⟩),.string ⟨s.toArray⟩,.int .i64 n] W' fun e w'=>e=.returned (.bool (Xk f s n))/\W'.grownBy w' none:=fun W' hW'=>Hae.out s n W' hs1 hnl hW'
    have He:Hid (Xk f (x.args[j]?.getD []) ((Yd f.bk9 (x.lb9[j]?.getD [])).getD 0)=Xk f s n):=by rw[hs,hs2,Option.getD_some,Option.getD_some,hn];rfl
    have hl2:(j:Int)<(x.lb9.length:Int):=by have:=Hal.out;omega
    clear hr7 hr8 hs hs2 hn hval hlow;go_wp2_with fail;go_cut [36] (fun s36 wx=>s36=.bool (!(Xk f s n))/\Hid (Below W.heap.size W wx))
    case first=>
     go_region_held3 (fun w'=>w'.cell? ⟨c,0,none⟩=some (.pointer (some ⟨b,0,none⟩))/\w'.cell? ⟨c4,0,none⟩=some (.func (.func 138) #[] #[.pointer (some ⟨c,0,none⟩)])/\w'.cell? ⟨w.heap.size+1+1,7,none⟩=some (.slice (some ⟨bL,offL,none⟩) x.lb9.length d5)/\w'.cell? ⟨bL,offL+j,none⟩=some (.string ⟨s2.toArray⟩))
      (first|exact⟨z3,z4,z5,z2⟩|exact⟨y3,y4,y5,y2⟩|go_keep)
      (first
       |(go_at_call 138;refine (hnd2 _ hI.out.drew).mono ?_;rintro e w4 ⟨rfl,hb4⟩;have hq4:=hI.out.drew.trans (hb4.mono hI.out.size);have y3:=cur hq4 (by omega) c0';have y4:=cur hq4 (by omega) c4';have y5:=cur hq4 (by omega) i7;have y2:=(hb4.cell (p:=⟨bL,offL+j,none⟩) (by show bL<wr.heap.size;have:=hI.out.size;omega)).trans z2)
       |(go_at_call 146;refine (hae2 _ hq4).mono ?_;rintro e w5 ⟨rfl,hg5⟩;have hq5:=hq4.trans ((Zk hg5).mono hq4.size);have y3:=cur hq5 (by omega) c0';have y4:=cur hq5 (by omega) c4';have y5:=cur hq5 (by omega) i7;have y2:=((Zk hg5).cell (p:=⟨bL,offL+j,none⟩) (by show bL<w4.heap.size;have:=hq4.size;omega)).trans y2))
     all_goals (go_wp2_with fail;go_meet)
     exact⟨rfl,hq5⟩
    case rest=>
     obtain⟨rfl,hI5⟩:=hcut;clear z1 z2 z3 z4 z5 hnd2 hae2
     cases hv:Xk f s n with
     |true=>
      rw[hv] at He;go_wp2;go_roundw
      case rel=>exact⟨j+1,by go_num,by omega,hI5,hid (fun i hi=>by
                                        by_cases e:i=j
                                        ·subst e;exact He.out
                                        ·exact hP.out i (by omega))⟩
      case measure=>simp[intOf];omega
     |false=>
      rw[hv] at He;have HB:=hid (Zmr hl He.out);clear He;go_wp2;go_ret;exact⟨by rw[HR.out,HB.out];rfl,HbW.out.trans (hI5.out.mono (by omega))⟩
   ·have HB:=hid (Zmq (f:=f) (x:=x) fun i hi=>hP.out i (by omega));go_wp2;go_ret;exact⟨by rw[HR.out,HB.out];rfl,HbW.out.trans (hI.out.mono (by omega))⟩
theorem Zep:∀ args w,(callFunc 141 args).run Tryz.prog w=.ok (.enter 141 args) w:=enters_of Tryz.func141 (by kernel_rfl) rfl
theorem Zpb (f:GFun) (b B:Nat) (w:World) (h:Body w B b f) (hB:B<=w.heap.size) (hok:FOk f):
  Calls Tryz.prog 93 #[.pointer (some ⟨b,0,none⟩)] w fun e w'=>e=.returned (U9 (V7 f (X6 f)))/\Below w.heap.size w w':=by
 obtain⟨W,hW⟩:∃ W:World,W=(w.alloc (.cells #[.pointer (some ⟨b,0,none⟩)] 96)).alloc (.cells #[.func (.func 138) #[] #[.pointer (some ⟨w.heap.size,0,none⟩)]] 113):=⟨_,rfl⟩
 have hb1:Below w.heap.size w W:=by rw[hW];exact ((Below.refl _ w).alloc (Lf _) _).alloc (by simp) _
 have hsW:W.heap.size=w.heap.size+2:=by rw[hW];simp
 have h1:=h.below hb1 hB;have hc0:W.cell? ⟨w.heap.size,0,none⟩=some (.pointer (some ⟨b,0,none⟩)):=by
  have:=La w (.cells #[.pointer (some ⟨b,0,none⟩)] 96);rw[hW];exact (Za (Zc this _)).1 0
 have hc4:W.cell? ⟨w.heap.size+1,0,none⟩=some (.func (.func 138) #[] #[.pointer (some ⟨w.heap.size,0,none⟩)]):=by
  have:=La (w.alloc (.cells #[.pointer (some ⟨b,0,none⟩)] 96)) (.cells #[.func (.func 138) #[] #[.pointer (some ⟨w.heap.size,0,none⟩)]] 113);simp only[World.size_alloc] at this;rw[hW];exact (Za this).1 0
 have hfind:=Zdd f b B 141 #[.pointer (some ⟨w.heap.size,0,none⟩),.pointer (some ⟨w.heap.size+1,0,none⟩)] W (X6 f) (by omega) h1 Zep (fun k i y x va vl W' hy hx hW' hi=>by
  have hym:=Ll hy
  have hxm:=Ll hx
  have:=Zkg f b B w.heap.size (w.heap.size+1) W' k i x va vl (h1.below hW' (by omega)) (by have:=hW'.size;omega) hok (Le hy).1 (by have:=hok.code y hym;have:=(Le hx).1;omega)
   (hok.phi y hym x hxm) (hok.lab y hym x hxm) (cur hW' (by omega) hc0) (by have:=hW'.size;omega) (cur hW' (by omega) hc4) (by have:=hW'.size;omega) hi
  exact this.mono fun e w' h=>⟨h.1,hW'.trans (h.2.mono hW'.size)⟩)
 obtain⟨⟨p,q⟩,hr⟩:∃ r:Option (Nat×Nat)×Unit,r.1=V7 f (X6 f):=⟨(_,()),rfl⟩
 rw[<-hr] at hfind ⊢;have Hb1:=hid hb1;clear h h1 hr hc4 hb1 hok;simp only[U9] at hfind;go_enter Tryz.func93,Tryz.ntmps93;go_upto_region 2 with (fail)
 rw[<-hW];clear hW;go_wp2_with (go_at_call 130;refine hfind.mono ?_;rintro e w' ⟨rfl,hb'⟩);refine bodyPost_ret (v:=U9 p) (by simp[results,Tryz.results93,go_sem,U9]) rfl ⟨rfl,?_⟩;exact Hb1.out.trans (hb'.mono (by omega))

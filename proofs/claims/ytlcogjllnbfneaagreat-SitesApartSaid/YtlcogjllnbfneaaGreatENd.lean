/- Contracts of the rules of names that go by find. Conditions in it. -/
import Derived.Test.YtlcogjllnbfneaaGreatENa
import Derived.Deep.RegionWith
set_option maxHeartbeats 1000000
set_option linter.all false
namespace Go.Proofs.YtlcogjllnbfneaaGreat
open Lib(hid)
open Go.RowKit
structure ClAt (w:World) (B wb cb:Nat) (p:GProg) (vp vm:Value):Prop where
 walk:WalkAt w B wb p vp vm
 box:w.cell? ⟨cb,0,none⟩=some (.pointer (some ⟨wb,0,none⟩))
 lt:cb<w.heap.size
 hB:B<=w.heap.size
theorem ClAt.below {w w':World} {B wb cb:Nat} {p:GProg} {vp vm:Value} (h:ClAt w B wb cb p vp vm) (hb:Below w.heap.size w w'):ClAt w' B wb cb p vp vm:=
 ⟨h.walk.below hb h.hB,(hb.cell (p:=⟨cb,0,none⟩) h.lt).trans h.box,Lm h.lt hb.size,Nat.le_trans h.hB hb.size⟩
theorem Zqf (a b:Nat):(((a:Int)) != (b:Int))= !(a == b):=by
 by_cases h:a=b
 ·subst h;simp
 ·have e1:(a == b)=false:=beq_eq_false_iff_ne.2 h;have e2:((a:Int) != (b:Int))=true:=by rw[bne_iff_ne];omega
  rw[e1,e2];rfl
theorem Zvm (p:GProg) (vp vm:Value) (B wb cb:Nat) (pt:GPt) (x:GIns) (va vl:Value) (w:World) (hm:(pt,x)∈pts p) (hc:ClAt w B wb cb p vp vm) (hi:InsAt w B x va vl):
  Calls Tryz.prog 174 #[ptA pt,Uh x va vl,.pointer (some ⟨cb,0,none⟩)] w fun e w'=>e=.returned (.bool ((x.op == 10||x.op == 4)&&decide (Xq p x.fn<0)))/\Below w.heap.size w w':=by
 obtain⟨A4,d4,rfl,m4,_,_,_⟩:=hi.args.open_;obtain⟨A5,d5,rfl,m5,_,_,_⟩:=hi.lb9.open_;obtain⟨w0,hw0⟩:∃ w0:World,w0=(w.alloc (.cells #[.int .i64 pt.1,.int .i64 pt.2.1,.int .i64 pt.2.2] 41)).alloc (.cells #[.int .u8 x.op,.string ⟨x.dst.toArray⟩,.string ⟨x.a.toArray⟩,.string ⟨x.b.toArray⟩,.int .i64 x.n,.string ⟨x.fn.toArray⟩,.slice A4 x.args.length d4,.slice A5 x.lb9.length d5] 25):=⟨_,rfl⟩
 have hb0:Below w.heap.size w w0:=by rw[hw0];exact ((Below.refl w.heap.size w).alloc (Lf _) _).alloc (by simp) _
 have hsz0:w0.heap.size=w.heap.size+2:=by rw[hw0];simp
 have hc1:=hc.below hb0;have hlt:=hc.lt;have hwl:wb<w.heap.size:=by have:=hc.walk.lt;have:=hc.hB;omega
 have hbox:=hc.box;have hcn:cb≠w.heap.size:=by omega
 have hwn:wb≠w.heap.size:=by omega
 unfold ptA Uh;have hnm:=Zcv p vp vm x.fn B wb w0 (by have:=hc.hB;omega) hc1.walk hi.fn;rw[hw0] at hnm;have Hb0:=hid hb0;rw[hw0] at Hb0;have hop:=hi.op;clear hc hc1 hi hb0 hsz0 hw0;obtain⟨z,hz⟩:∃ z,z=Xq p x.fn:=⟨_,rfl⟩
 rw[<-hz] at hnm ⊢;clear hz
 by_cases h1:x.op=10
 ·have e1:((x.op:Int) == 10)=true:=beq_iff_eq.2 (by omega);have H1:=hid h1;clear h1 hop;go_enter Tryz.func174,Tryz.ntmps174;go_wp2_with (go_at_call 160;refine hnm.mono ?_;rintro e w1 ⟨rfl,hb1⟩);go_ret;exact⟨by simp[H1.out],Hb0.out.trans (hb1.mono (by simp;omega))⟩
 ·have e1:((x.op:Int) == 10)=false:=beq_eq_false_iff_ne.2 (by omega)
  by_cases h2:x.op=4
  ·have e2:((x.op:Int) == 4)=true:=beq_iff_eq.2 (by omega);have H2:=hid h2;clear h1 h2 hop;go_enter Tryz.func174,Tryz.ntmps174;go_wp2_with (go_at_call 160;refine hnm.mono ?_;rintro e w1 ⟨rfl,hb1⟩);go_ret;exact⟨by simp[H2.out],Hb0.out.trans (hb1.mono (by simp;omega))⟩
  ·have e2:((x.op:Int) == 4)=false:=beq_eq_false_iff_ne.2 (by omega);have H1:=hid h1;have H2:=hid h2;clear h1 h2 hop hnm;go_enter Tryz.func174,Tryz.ntmps174;go_wp2_with fail;go_ret;exact⟨by simp[H1.out,H2.out],Hb0.out⟩
theorem Zeo:∀ args w,(callFunc 174 args).run Tryz.prog w=.ok (.enter 174 args) w:=enters_of Tryz.func174 (by kernel_rfl) rfl
theorem Zox (p:GProg) (vp vm:Value) (B wb:Nat) (w:World) (hB:B<=w.heap.size) (h:WalkAt w B wb p vp vm):
  Calls Tryz.prog 119 #[.pointer (some ⟨wb,0,none⟩)] w fun e w'=>e=.returned (ptV (Zcc p))/\w.grownBy w' none:=by
 obtain⟨w0,hw0⟩:∃ w0:World,w0=(w.alloc (.cells #[.pointer (some ⟨wb,0,none⟩)] 175)).alloc (.cells z3 41):=⟨_,rfl⟩
 have hb0:Below w.heap.size w w0:=by rw[hw0];exact ((Below.refl w.heap.size w).alloc (Lf _) _).alloc (by simp) _
 have hsz0:w0.heap.size=w.heap.size+2:=by rw[hw0];simp
 have hc0:w0.heap[w.heap.size]?=some (.cells #[.pointer (some ⟨wb,0,none⟩)] 175 (0,0)):=by rw[hw0];exact Zc (La w _) _
 have hz0:w0.heap[w.heap.size+1]?=some (.cells z3 41 (0,0)):=by
  have:=La (w.alloc (.cells #[.pointer (some ⟨wb,0,none⟩)] 175)) (.cells z3 41);rw[hw0];simpa using this
 have hcl0:ClAt w0 B wb w.heap.size p vp vm:=⟨h.below hb0 hB,(Za hc0).1 0,by omega,by omega⟩
 have hc:=Ku p vp vm B wb 174 #[.pointer (some ⟨w.heap.size,0,none⟩)] w0 none (fun _ W=>Below w0.heap.size w0 W) (fun _ pt x=>(x.op == 10||x.op == 4)&&decide (Xq p x.fn<0)) (by omega) (h.below hb0 hB)
  (fun r e=>by cases e) (fun _ _ _ r e=>by cases e) Zeo (fun k W W' h1 h2=>h1.trans h2) (Below.refl _ _)
  (fun k pt x va vl W hm hj hg hi _=>(Zvm p vp vm B wb w.heap.size pt x va vl W hm (hcl0.below hj) hi).mono fun e W' ⟨he,hb⟩=>⟨he,fun _=>hj.trans (hb.mono hj.size),Zj hb⟩)
 rw[show Zbn p (fun _ pt x=>(x.op == 10||x.op == 4)&&decide (Xq p x.fn<0))=Zcc p from rfl] at hc;have hlt:wb<w.heap.size:=by have:=h.lt;omega
 have hgw:∀ w1,w0.grownBy w1 none->w1.heap[w.heap.size+1]?=some (.cells z3 41 (0,0))/\w.grownBy w1 none:=fun w1 hg1=>
  ⟨(hg1.block _ (by omega) (by simp)).trans hz0,Zb (Zj hb0) hg1⟩
 rw[hw0] at hc;have Hgw:=hid hgw;rw[hw0] at Hgw;clear h hgw hz0 hc0 hb0 hsz0 hw0 hcl0;obtain⟨r,hr⟩:∃ r,r=Zcc p:=⟨_,rfl⟩
 rw[<-hr] at hc ⊢;clear hr
 cases r with
 |none=>
  change Calls _ _ _ _ (fun e w'=>e=.returned (.tuple #[.agg #[.int .i64 0,.int .i64 0,.int .i64 0],.bool false])/\_) at hc;go_enter Tryz.func119,Tryz.ntmps119;go_wp2_with (go_at_call 163;refine hc.mono ?_;rintro e w1 ⟨rfl,hg1⟩;obtain⟨hb1,hb2⟩:=Za (Hgw.out w1 hg1).1);refine bodyPost_ret (v:=ptV none) (by simp[results,Tryz.results119,go_sem,ptV,ptC,hb1]) rfl ⟨rfl,?_⟩
  repeat (first|exact (Hgw.out w1 hg1).2|refine Zi ?_ (Nat.le_succ _) _)
 |some q=>
  obtain⟨a,b,c⟩:=q;change Calls _ _ _ _ (fun e w'=>e=.returned (.tuple #[.agg #[.int .i64 a,.int .i64 b,.int .i64 c],.bool true])/\_) at hc;go_enter Tryz.func119,Tryz.ntmps119;go_wp2_with (go_at_call 163;refine hc.mono ?_;rintro e w1 ⟨rfl,hg1⟩;obtain⟨hb1,hb2⟩:=Za (Hgw.out w1 hg1).1);refine bodyPost_ret (v:=ptV (some (a,b,c))) (by simp[results,Tryz.results119,go_sem,ptV,ptC,hb1]) rfl ⟨rfl,?_⟩
  repeat (first|exact (Hgw.out w1 hg1).2|refine Zi ?_ (Nat.le_succ _) _)
theorem arity_1 (p:GProg) (vp vm:Value) (B wb cb:Nat) (pt:GPt) (x:GIns) (va vl:Value) (w:World) (hm:(pt,x)∈pts p) (hc:ClAt w B wb cb p vp vm) (hi:InsAt w B x va vl):
  Calls Tryz.prog 175 #[ptA pt,Uh x va vl,.pointer (some ⟨cb,0,none⟩)] w fun e w'=>e=.returned (.bool ((x.op == 10&&decide (0<=Xq p x.fn))&& !(Vi p x.fn == x.args.length)))/\Below w.heap.size w w':=by
 obtain⟨A4,d4,rfl,m4,_,_,_⟩:=hi.args.open_;obtain⟨A5,d5,rfl,m5,_,_,_⟩:=hi.lb9.open_;obtain⟨w0,hw0⟩:∃ w0:World,w0=(w.alloc (.cells #[.int .i64 pt.1,.int .i64 pt.2.1,.int .i64 pt.2.2] 41)).alloc (.cells #[.int .u8 x.op,.string ⟨x.dst.toArray⟩,.string ⟨x.a.toArray⟩,.string ⟨x.b.toArray⟩,.int .i64 x.n,.string ⟨x.fn.toArray⟩,.slice A4 x.args.length d4,.slice A5 x.lb9.length d5] 25):=⟨_,rfl⟩
 have hb0:Below w.heap.size w w0:=by rw[hw0];exact ((Below.refl w.heap.size w).alloc (Lf _) _).alloc (by simp) _
 have hsz0:w0.heap.size=w.heap.size+2:=by rw[hw0];simp
 have hc1:=hc.below hb0;have hlt:=hc.lt;have hwl:wb<w.heap.size:=by have:=hc.walk.lt;have:=hc.hB;omega
 have hbox:=hc.box;have hcn:cb≠w.heap.size:=by omega
 have hwn:wb≠w.heap.size:=by omega
 unfold ptA Uh;have hnm:=Zcv p vp vm x.fn B wb w0 (by have:=hc.hB;omega) hc1.walk hi.fn;have Hcl:=hid (show ∀ w1,Below w0.heap.size w0 w1->ClAt w1 B wb cb p vp vm from fun w1 hb1=>hc1.below hb1);have hbx:∀ w1,Below w0.heap.size w0 w1->w1.heap[w.heap.size+1]?=some (.cells #[.int .u8 x.op,.string ⟨x.dst.toArray⟩,.string ⟨x.a.toArray⟩,.string ⟨x.b.toArray⟩,.int .i64 x.n,.string ⟨x.fn.toArray⟩,.slice A4 x.args.length d4,.slice A5 x.lb9.length d5] 25 (0,0)):=fun w1 hb1=>
  (hb1.block _ (by omega)).trans (by
   have:=La (w.alloc (.cells #[.int .i64 pt.1,.int .i64 pt.2.1,.int .i64 pt.2.2] 41)) (.cells #[.int .u8 x.op,.string ⟨x.dst.toArray⟩,.string ⟨x.a.toArray⟩,.string ⟨x.b.toArray⟩,.int .i64 x.n,.string ⟨x.fn.toArray⟩,.slice A4 x.args.length d4,.slice A5 x.lb9.length d5] 25)
   rw[hw0];simpa using this)
 have Hbx:=hid hbx;have Hb0:=hid (show ∀ w1,Below w0.heap.size w0 w1->Below w.heap.size w w1 from fun w1 hb1=>hb0.trans (hb1.mono (by omega)));rw[hw0] at hnm Hcl Hbx Hb0;have hop:=hi.op;clear hc hc1 hi hb0 hsz0 hw0 hbx;have hn:Xq p x.fn=match p.findIdx? (fun f=>f.name == x.fn) with|some i=>(i:Int)|none=> -1:=rfl
 by_cases h1:x.op=10
 ·have e1:((x.op:Int) == 10)=true:=beq_iff_eq.2 (by omega)
  cases hfi:p.findIdx? (fun f=>f.name == x.fn) with
  |none=>
   rw[hfi] at hn;have Hr:=hid (show ((x.op == 10&&decide (0<=Xq p x.fn))&& !(Vi p x.fn == x.args.length))=false by rw[hn];simp);rw[hn] at hnm;clear h1 hop hn hfi;go_enter Tryz.func175,Tryz.ntmps175;go_wp2_with (go_at_call 160;refine hnm.mono ?_;rintro e w1 ⟨rfl,hb1⟩;obtain⟨k1,k2⟩:=Za (Hbx.out w1 hb1);have Hb1:=hid hb1;clear hb1);go_quiet (fail);go_wp2;go_ret;exact⟨by rw[Hr.out];rfl,(Hb0.out _ Hb1.out).trans ⟨rfl,rfl,rfl,Lf _,fun _ _=>rfl⟩⟩
  |some m=>
   have hml:m<p.length:=by
    have:=List.findIdx?_eq_some_iff_getElem.1 hfi;exact this.1
   rw[hfi] at hn;rw[hn] at hnm;have hpx:∀ y,p[m]?=some y->Vi p x.fn=y.params.length:=fun y hy=>by simp[Vi,hn,hy]
   have hr2:∀ n,Vi p x.fn=n->((x.op == 10&&decide (0<=Xq p x.fn))&& !(Vi p x.fn == x.args.length))= !(n == x.args.length):=fun n hn'=>by
    rw[hn,hn',h1];simp
   have Hpx:=hid hpx;have Hr2:=hid hr2;have hml':(m:Int)<(p.length:Int):=by omega
   have hm0:decide ((0:Int)<=(m:Int))=true:=by simp
   clear h1 hop hn hfi hpx hr2;go_enter Tryz.func175,Tryz.ntmps175;go_wp2_with (go_at_call 160;refine hnm.mono ?_;rintro e w1 ⟨rfl,hb1⟩;obtain⟨k1,k2⟩:=Za (Hbx.out w1 hb1);have hcl1:=Hcl.out w1 hb1;have Hb1:=hid hb1;clear hb1);obtain⟨A,c,hve,hmx,hlc,hcm,hA⟩:=hcl1.walk.prog.open_;obtain⟨y,b,off,hy,rfl,hbB,hr⟩:=hA.at_ hml;obtain⟨A1,d1,A2,d2,hf,m1,m2,e2,e3,e4⟩:=Yh hr;have c0:=hcl1.walk.c0;have c1:=hcl1.box;rw[hve] at c0;have Hps:=hid (Hpx.out y hy);clear hy hcl1 hA hr hf hve;go_quiet (fail);go_wp2;go_ret;refine⟨?_,(Hb0.out _ Hb1.out).trans ⟨rfl,rfl,rfl,Lf _,fun _ _=>rfl⟩⟩;rw[Hr2.out _ Hps.out,<-Zqf];rfl
 ·have e1:((x.op:Int) == 10)=false:=beq_eq_false_iff_ne.2 (by omega);have Hr:=hid (show ((x.op == 10&&decide (0<=Xq p x.fn))&& !(Vi p x.fn == x.args.length))=false by simp[h1]);obtain⟨zz,hz⟩:∃ zz,zz=Xq p x.fn:=⟨_,rfl⟩
  rw[<-hz] at hnm;clear h1 hop hn hz;go_enter Tryz.func175,Tryz.ntmps175;go_wp2_with (go_at_call 160;refine hnm.mono ?_;rintro e w1 ⟨rfl,hb1⟩;obtain⟨k1,k2⟩:=Za (Hbx.out w1 hb1);have Hb1:=hid hb1;clear hb1);go_quiet (fail);go_wp2;go_ret;exact⟨by rw[Hr.out];rfl,(Hb0.out _ Hb1.out).trans ⟨rfl,rfl,rfl,Lf _,fun _ _=>rfl⟩⟩
theorem Zfs:∀ args w,(callFunc 175 args).run Tryz.prog w=.ok (.enter 175 args) w:=enters_of Tryz.func175 (by kernel_rfl) rfl
theorem Zrd (p:GProg) (vp vm:Value) (B wb:Nat) (w:World) (hB:B<=w.heap.size) (h:WalkAt w B wb p vp vm):
  Calls Tryz.prog 120 #[.pointer (some ⟨wb,0,none⟩)] w fun e w'=>e=.returned (ptV (Zgr p))/\w.grownBy w' none:=by
 obtain⟨w0,hw0⟩:∃ w0:World,w0=(w.alloc (.cells #[.pointer (some ⟨wb,0,none⟩)] 175)).alloc (.cells z3 41):=⟨_,rfl⟩
 have hb0:Below w.heap.size w w0:=by rw[hw0];exact ((Below.refl w.heap.size w).alloc (Lf _) _).alloc (by simp) _
 have hsz0:w0.heap.size=w.heap.size+2:=by rw[hw0];simp
 have hc0:w0.heap[w.heap.size]?=some (.cells #[.pointer (some ⟨wb,0,none⟩)] 175 (0,0)):=by rw[hw0];exact Zc (La w _) _
 have hz0:w0.heap[w.heap.size+1]?=some (.cells z3 41 (0,0)):=by
  have:=La (w.alloc (.cells #[.pointer (some ⟨wb,0,none⟩)] 175)) (.cells z3 41);rw[hw0];simpa using this
 have hcl0:ClAt w0 B wb w.heap.size p vp vm:=⟨h.below hb0 hB,(Za hc0).1 0,by omega,by omega⟩
 have hc:=Ku p vp vm B wb 175 #[.pointer (some ⟨w.heap.size,0,none⟩)] w0 none (fun _ W=>Below w0.heap.size w0 W) (fun _ pt x=>(x.op == 10&&decide (0<=Xq p x.fn))&& !(Vi p x.fn == x.args.length)) (by omega) (h.below hb0 hB)
  (fun r e=>by cases e) (fun _ _ _ r e=>by cases e) Zfs (fun k W W' h1 h2=>h1.trans h2) (Below.refl _ _)
  (fun k pt x va vl W hm hj hg hi _=>(arity_1 p vp vm B wb w.heap.size pt x va vl W hm (hcl0.below hj) hi).mono fun e W' ⟨he,hb⟩=>⟨he,fun _=>hj.trans (hb.mono hj.size),Zj hb⟩)
 rw[show Zbn p (fun _ pt x=>(x.op == 10&&decide (0<=Xq p x.fn))&& !(Vi p x.fn == x.args.length))=Zgr p from rfl] at hc;have hlt:wb<w.heap.size:=by have:=h.lt;omega
 have hgw:∀ w1,w0.grownBy w1 none->w1.heap[w.heap.size+1]?=some (.cells z3 41 (0,0))/\w.grownBy w1 none:=fun w1 hg1=>
  ⟨(hg1.block _ (by omega) (by simp)).trans hz0,Zb (Zj hb0) hg1⟩
 rw[hw0] at hc;have Hgw:=hid hgw;rw[hw0] at Hgw;clear h hgw hz0 hc0 hb0 hsz0 hw0 hcl0;obtain⟨r,hr⟩:∃ r,r=Zgr p:=⟨_,rfl⟩
 rw[<-hr] at hc ⊢;clear hr
 cases r with
 |none=>
  change Calls _ _ _ _ (fun e w'=>e=.returned (.tuple #[.agg #[.int .i64 0,.int .i64 0,.int .i64 0],.bool false])/\_) at hc;go_enter Tryz.func120,Tryz.ntmps120;go_wp2_with (go_at_call 163;refine hc.mono ?_;rintro e w1 ⟨rfl,hg1⟩;obtain⟨hb1,hb2⟩:=Za (Hgw.out w1 hg1).1);refine bodyPost_ret (v:=ptV none) (by simp[results,Tryz.results120,go_sem,ptV,ptC,hb1]) rfl ⟨rfl,?_⟩
  repeat (first|exact (Hgw.out w1 hg1).2|refine Zi ?_ (Nat.le_succ _) _)
 |some q=>
  obtain⟨a,b,c⟩:=q;change Calls _ _ _ _ (fun e w'=>e=.returned (.tuple #[.agg #[.int .i64 a,.int .i64 b,.int .i64 c],.bool true])/\_) at hc;go_enter Tryz.func120,Tryz.ntmps120;go_wp2_with (go_at_call 163;refine hc.mono ?_;rintro e w1 ⟨rfl,hg1⟩;obtain⟨hb1,hb2⟩:=Za (Hgw.out w1 hg1).1);refine bodyPost_ret (v:=ptV (some (a,b,c))) (by simp[results,Tryz.results120,go_sem,ptV,ptC,hb1]) rfl ⟨rfl,?_⟩
  repeat (first|exact (Hgw.out w1 hg1).2|refine Zi ?_ (Nat.le_succ _) _)
theorem Znp (x:GIns) (va vl:Value) (w:World) (B:Nat) (hi:InsAt w B x va vl):
  Calls Tryz.prog 169 #[.agg #[.int .u8 x.op,.string ⟨x.dst.toArray⟩,.string ⟨x.a.toArray⟩,.string ⟨x.b.toArray⟩,.int .i64 x.n,.string ⟨x.fn.toArray⟩,va,vl]] w fun e w'=>e=.returned (.bool (!(x.op == 6)))/\Below w.heap.size w w':=by
 obtain⟨A4,d4,rfl,_,_,_,_⟩:=hi.args.open_;obtain⟨A5,d5,rfl,_,_,_,_⟩:=hi.lb9.open_;clear hi;go_enter Tryz.func169,Tryz.ntmps169;go_wp2;go_ret;exact⟨by rw[<-Zqf];rfl,(Below.refl _ w).alloc (Lf _) _⟩
theorem Zbi:∀ args w,(callFunc 169 args).run Tryz.prog w=.ok (.enter 169 args) w:=enters_of Tryz.func169 (by kernel_rfl) rfl
theorem Ztv (p:GProg) (vp vm:Value) (B wb cb:Nat) (pt:GPt) (x:GIns) (va vl:Value) (w:World) (hm:(pt,x)∈pts p) (hc:ClAt w B wb cb p vp vm) (hi:InsAt w B x va vl):
  Calls Tryz.prog 167 #[ptA pt,Uh x va vl,.pointer (some ⟨cb,0,none⟩)] w fun e w'=>e=.returned (.bool (x.op == 6&&(pt.2.1 == 0||((Vy p pt.1 pt.2.1).take pt.2.2).any fun y=> !(y.op == 6))))/\Below w.heap.size w w':=by
 obtain⟨A4,d4,rfl,m4,_,_,_⟩:=hi.args.open_;obtain⟨A5,d5,rfl,m5,_,_,_⟩:=hi.lb9.open_;obtain⟨w0,hw0⟩:∃ w0:World,w0=(w.alloc (.cells #[.int .i64 pt.1,.int .i64 pt.2.1,.int .i64 pt.2.2] 41)).alloc (.cells #[.int .u8 x.op,.string ⟨x.dst.toArray⟩,.string ⟨x.a.toArray⟩,.string ⟨x.b.toArray⟩,.int .i64 x.n,.string ⟨x.fn.toArray⟩,.slice A4 x.args.length d4,.slice A5 x.lb9.length d5] 25):=⟨_,rfl⟩
 have hb0:Below w.heap.size w w0:=by rw[hw0];exact ((Below.refl w.heap.size w).alloc (Lf _) _).alloc (by simp) _
 have hsz0:w0.heap.size=w.heap.size+2:=by rw[hw0];simp
 have hc1:=hc.below hb0;have hlt:=hc.lt;have hwl:wb<w.heap.size:=by have:=hc.walk.lt;have:=hc.hB;omega
 have hbox:=hc.box;have hcn:cb≠w.heap.size:=by omega
 have hwn:wb≠w.heap.size:=by omega
 unfold ptA Uh;have hwk:=hc1.walk;obtain⟨f,y,hf0,hy0,hx0⟩:=Ut hm;obtain⟨A,c,hve,hmx,hlc,hcm,hA⟩:=hwk.prog.open_;have hkf:=(Le hf0).1;have hky:=(Le hy0).1;have hkx:=(Le hx0).1;obtain⟨f',b1,off1,hf1,rfl,hbB1,hr1⟩:=hA.at_ hkf;rw[hf0] at hf1
 cases hf1
 obtain⟨A1,d1,A2,d2,hff,m1,m2,e0,e1,e2⟩:=Yh hr1;obtain⟨B2,c2,hv2,_,hlc2,hcm2,hB2⟩:=hff.bk9.open_
 cases hv2
 have c0:=hwk.c0;have c1:=hc1.box;rw[hve] at c0;obtain⟨y',b2,off2,hy1,rfl,hbB2,hr2⟩:=hB2.at_ hky;rw[hy0] at hy1
 cases hy1
 obtain⟨A3,d3,hyy,m3,g0,g1⟩:=Yg hr2;obtain⟨B3,c3,hv3,_,hlc3,hcm3,hB3⟩:=hyy.code.open_
 cases hv3
 have hco:Vy p pt.1 pt.2.1=y.code:=by simp[Vy,Yx,hf0,hy0]
 rw[hco];have hT:=hB3.take pt.2.2 (by omega);rw[hw0] at e0 e1 e2 c0 c1 g0 g1;have Hc:Hid (∀ nq,Calls Tryz.prog 168 #[.slice A3 pt.2.2 d3,.func (.func 169) #[] #[]] (w0.drewN nq) fun e w'=>e=.returned (.bool ((y.code.take pt.2.2).any fun y=> !(y.op == 6)))/\Below w0.heap.size w0 w'):=fun nq=>by
  have hbn:Below w0.heap.size w0 (w0.drewN nq):=⟨rfl,rfl,rfl,Lf _,fun _ _=>rfl⟩
  have hBw:B<=w0.heap.size:=by have:=hc.hB;omega
  exact (Zco (.slice A3 pt.2.2 d3) (y.code.take pt.2.2) 169 #[] (w0.drewN nq) B (fun y=> !(y.op == 6)) hBw (hT.below insR.keeps hbn hBw) Zbi
         (fun z va vl W hb hz=>(Znp z va vl W B hz).mono fun e w' ⟨he,hb'⟩=>⟨he,hb.trans (hb'.mono hb.size)⟩)).mono fun e w' ⟨he,hb⟩=>⟨he,hbn.trans hb⟩
 have hcw:cb<w.heap.size:=hc.lt;have hB0:B<=w.heap.size:=hc.hB;have hop:=hi.op;have Hb0:=hid hb0;rw[hw0] at Hc Hb0;obtain⟨an,han⟩:∃ an,an=(y.code.take pt.2.2).any fun y=> !(y.op == 6):=⟨_,rfl⟩
 rw[<-han] at Hc ⊢;have hl1:pt.1<p.length:=hkf;have hl2:pt.2.1<f.bk9.length:=hky;have hl3:pt.2.2<=y.code.length:=by omega
 clear han hc hc1 hi hb0 hsz0 hw0 hT hB3 hyy hr2 hB2 hff hr1 hA hwk hm hf0 hy0 hx0 hco hkf hky hkx hve
 by_cases h1:x.op=6
 ·have e3:((x.op:Int) == 6)=true:=beq_iff_eq.2 (by omega);have H1:=hid h1;clear h1 hop
  by_cases h2:pt.2.1=0
  ·have e4:((pt.2.1:Int) == 0)=true:=beq_iff_eq.2 (by omega);have H2:=hid h2;clear h2;go_enter Tryz.func167,Tryz.ntmps167;go_wp2_with fail;go_quiet (fail);go_wp2_with fail;go_ret;refine⟨by simp[H1.out,H2.out],Hb0.out.trans ⟨rfl,rfl,rfl,Lf _,fun _ _=>rfl⟩⟩
  ·have e4:((pt.2.1:Int) == 0)=false:=beq_eq_false_iff_ne.2 (by omega);have H2:=hid (show (pt.2.1 == 0)=false from beq_eq_false_iff_ne.2 h2);clear h2;go_enter Tryz.func167,Tryz.ntmps167;go_wp2_with fail;go_quiet (fail);go_wp2_with (go_at_call 168;refine (Hc.out _).mono ?_;rintro e w1 ⟨rfl,hb9⟩);go_ret;exact⟨by simp[H1.out,H2.out],Hb0.out.trans (hb9.mono (by simp;omega))⟩
 ·have e3:((x.op:Int) == 6)=false:=beq_eq_false_iff_ne.2 (by omega);have H1:=hid (show (x.op == 6)=false from beq_eq_false_iff_ne.2 h1);clear h1 hop;go_enter Tryz.func167,Tryz.ntmps167;go_wp2_with fail;go_quiet (fail);go_wp2_with fail;go_ret;exact⟨by simp[H1.out],Hb0.out.trans ⟨rfl,rfl,rfl,Lf _,fun _ _=>rfl⟩⟩
theorem Zen:∀ args w,(callFunc 167 args).run Tryz.prog w=.ok (.enter 167 args) w:=enters_of Tryz.func167 (by kernel_rfl) rfl
theorem Znq (p:GProg) (vp vm:Value) (B wb:Nat) (w:World) (hB:B<=w.heap.size) (h:WalkAt w B wb p vp vm):
  Calls Tryz.prog 117 #[.pointer (some ⟨wb,0,none⟩)] w fun e w'=>e=.returned (ptV (Zcb p))/\w.grownBy w' none:=by
 obtain⟨w0,hw0⟩:∃ w0:World,w0=(w.alloc (.cells #[.pointer (some ⟨wb,0,none⟩)] 175)).alloc (.cells z3 41):=⟨_,rfl⟩
 have hb0:Below w.heap.size w w0:=by rw[hw0];exact ((Below.refl w.heap.size w).alloc (Lf _) _).alloc (by simp) _
 have hsz0:w0.heap.size=w.heap.size+2:=by rw[hw0];simp
 have hc0:w0.heap[w.heap.size]?=some (.cells #[.pointer (some ⟨wb,0,none⟩)] 175 (0,0)):=by rw[hw0];exact Zc (La w _) _
 have hz0:w0.heap[w.heap.size+1]?=some (.cells z3 41 (0,0)):=by
  have:=La (w.alloc (.cells #[.pointer (some ⟨wb,0,none⟩)] 175)) (.cells z3 41);rw[hw0];simpa using this
 have hcl0:ClAt w0 B wb w.heap.size p vp vm:=⟨h.below hb0 hB,(Za hc0).1 0,by omega,by omega⟩
 have hc:=Ku p vp vm B wb 167 #[.pointer (some ⟨w.heap.size,0,none⟩)] w0 none (fun _ W=>Below w0.heap.size w0 W) (fun _ pt x=>x.op == 6&&(pt.2.1 == 0||((Vy p pt.1 pt.2.1).take pt.2.2).any fun y=> !(y.op == 6))) (by omega) (h.below hb0 hB)
  (fun r e=>by cases e) (fun _ _ _ r e=>by cases e) Zen (fun k W W' h1 h2=>h1.trans h2) (Below.refl _ _)
  (fun k pt x va vl W hm hj hg hi _=>(Ztv p vp vm B wb w.heap.size pt x va vl W hm (hcl0.below hj) hi).mono fun e W' ⟨he,hb⟩=>⟨he,fun _=>hj.trans (hb.mono hj.size),Zj hb⟩)
 rw[show Zbn p (fun _ pt x=>x.op == 6&&(pt.2.1 == 0||((Vy p pt.1 pt.2.1).take pt.2.2).any fun y=> !(y.op == 6)))=Zcb p from rfl] at hc;have hlt:wb<w.heap.size:=by have:=h.lt;omega
 have hgw:∀ w1,w0.grownBy w1 none->w1.heap[w.heap.size+1]?=some (.cells z3 41 (0,0))/\w.grownBy w1 none:=fun w1 hg1=>
  ⟨(hg1.block _ (by omega) (by simp)).trans hz0,Zb (Zj hb0) hg1⟩
 rw[hw0] at hc;have Hgw:=hid hgw;rw[hw0] at Hgw;clear h hgw hz0 hc0 hb0 hsz0 hw0 hcl0;obtain⟨r,hr⟩:∃ r,r=Zcb p:=⟨_,rfl⟩
 rw[<-hr] at hc ⊢;clear hr
 cases r with
 |none=>
  change Calls _ _ _ _ (fun e w'=>e=.returned (.tuple #[.agg #[.int .i64 0,.int .i64 0,.int .i64 0],.bool false])/\_) at hc;go_enter Tryz.func117,Tryz.ntmps117;go_wp2_with (go_at_call 163;refine hc.mono ?_;rintro e w1 ⟨rfl,hg1⟩;obtain⟨hb1,hb2⟩:=Za (Hgw.out w1 hg1).1);refine bodyPost_ret (v:=ptV none) (by simp[results,Tryz.results117,go_sem,ptV,ptC,hb1]) rfl ⟨rfl,?_⟩
  repeat (first|exact (Hgw.out w1 hg1).2|refine Zi ?_ (Nat.le_succ _) _)
 |some q=>
  obtain⟨a,b,c⟩:=q;change Calls _ _ _ _ (fun e w'=>e=.returned (.tuple #[.agg #[.int .i64 a,.int .i64 b,.int .i64 c],.bool true])/\_) at hc;go_enter Tryz.func117,Tryz.ntmps117;go_wp2_with (go_at_call 163;refine hc.mono ?_;rintro e w1 ⟨rfl,hg1⟩;obtain⟨hb1,hb2⟩:=Za (Hgw.out w1 hg1).1);refine bodyPost_ret (v:=ptV (some (a,b,c))) (by simp[results,Tryz.results117,go_sem,ptV,ptC,hb1]) rfl ⟨rfl,?_⟩
  repeat (first|exact (Hgw.out w1 hg1).2|refine Zi ?_ (Nat.le_succ _) _)
theorem Zhy (x:GBlk) (vc:Value) (s:Str) (sb B:Nat) (w:World) (hx:BlkAt w B x vc) (hsb:sb<w.heap.size) (hc:w.cell? ⟨sb,0,none⟩=some (.string ⟨s.toArray⟩)):
  Calls Tryz.prog 173 #[.agg #[.string ⟨x.label.toArray⟩,vc],.pointer (some ⟨sb,0,none⟩)] w fun e w'=>e=.returned (.bool (x.label == s))/\Below w.heap.size w w':=by
 obtain⟨A4,d4,rfl,_,_,_,_⟩:=hx.code.open_;have hne:sb≠w.heap.size:=by omega
 clear hx;go_enter Tryz.func173,Tryz.ntmps173;go_wp2;go_ret;exact⟨rfl,(Below.refl _ w).alloc (Lf _) _⟩
theorem Jr:∀ args w,(callFunc 173 args).run Tryz.prog w=.ok (.enter 173 args) w:=enters_of Tryz.func173 (by kernel_rfl) rfl
theorem Zmk (p:GProg) (vp vm:Value) (B wb cb ab:Nat) (i:Nat) (s:Str) (w:World) (hc:ClAt w B wb cb p vp vm) (ha:w.cell? ⟨ab,0,none⟩=some (.int .i64 i)) (hab:ab<w.heap.size) (hi:i<p.length):
  Calls Tryz.prog 171 #[.string ⟨s.toArray⟩,.pointer (some ⟨cb,0,none⟩),.pointer (some ⟨ab,0,none⟩)] w fun e w'=>e=.returned (.bool (!((Yx p i).any fun b=>b.label == s)))/\Below w.heap.size w w':=by
 obtain⟨w0,hw0⟩:∃ w0:World,w0=w.alloc (.cells #[.string ⟨s.toArray⟩] 9):=⟨_,rfl⟩
 have hb0:Below w.heap.size w w0:=by rw[hw0];exact (Below.refl w.heap.size w).alloc (Lf _) _
 have hsz0:w0.heap.size=w.heap.size+1:=by rw[hw0];simp
 have hs0:w0.heap[w.heap.size]?=some (.cells #[.string ⟨s.toArray⟩] 9 (0,0)):=by rw[hw0];exact La w _
 have hc1:=hc.below hb0;have hwk:=hc1.walk;have hlt:=hc.lt;have hwl:wb<w.heap.size:=by have:=hc.walk.lt;have:=hc.hB;omega
 obtain⟨A,c,hve,hmx,hlc,hcm,hA⟩:=hwk.prog.open_;obtain⟨f,b1,off1,hf0,rfl,hbB1,hr1⟩:=hA.at_ hi;obtain⟨A1,d1,A2,d2,hff,m1,m2,e0,e1,e2⟩:=Yh hr1;have c0:=hwk.c0;have c1:=hc1.box;rw[hve] at c0;have ha1:w0.cell? ⟨ab,0,none⟩=some (.int .i64 i):=(hb0.cell (p:=⟨ab,0,none⟩) hab).trans ha;have hbl:Yx p i=f.bk9:=by simp[Yx,hf0]
 have Hc:Hid (∀ nq,Calls Tryz.prog 172 #[.slice A2 f.bk9.length d2,.func (.func 173) #[] #[.pointer (some ⟨w.heap.size,0,none⟩)]] (w0.drewN nq) fun e w'=>e=.returned (.bool (f.bk9.any fun b=>b.label == s))/\Below w0.heap.size w0 w'):=fun nq=>by
  have hbn:Below w0.heap.size w0 (w0.drewN nq):=⟨rfl,rfl,rfl,Lf _,fun _ _=>rfl⟩
  have hBw:B<=w0.heap.size:=by have:=hc.hB;omega
  exact (Zcn (.slice A2 f.bk9.length d2) f.bk9 173 #[.pointer (some ⟨w.heap.size,0,none⟩)] (w0.drewN nq) B (fun b=>b.label == s) hBw (hff.bk9.below blkR.keeps hbn hBw) Jr
         (fun z vc W hb hz=>(Zhy z vc s w.heap.size B W hz (by have:=hb.size;simp at this;omega) ((hb.cell (p:=⟨w.heap.size,0,none⟩) (show w.heap.size<w0.heap.size by omega)).trans ((Za hs0).1 0))).mono fun e w' ⟨he,hb'⟩=>⟨he,hb.trans (hb'.mono hb.size)⟩)).mono fun e w' ⟨he,hb⟩=>⟨he,hbn.trans hb⟩
 rw[hbl];have hbr:b1<w.heap.size:=by have:=hc.hB;omega
 rw[hw0] at e0 e1 e2 c0 c1 ha1;have Hb0:=hid hb0;rw[hw0] at Hc Hb0;obtain⟨an,han⟩:∃ an,an=f.bk9.any fun b=>b.label == s:=⟨_,rfl⟩
 rw[<-han] at Hc ⊢;clear han hc hc1 hb0 hw0 hs0 hwk hA hf0 hr1 hff hbl hve ha hsz0;have hine:(i:Int)<(p.length:Int):=by omega
 go_enter Tryz.func171,Tryz.ntmps171;go_wp2_with fail;go_region_with (go_at_call 172;refine (Hc.out 1).mono ?_;rintro e w1 ⟨rfl,hb9⟩)
 all_goals
  go_wp2_with fail;go_ret;exact⟨rfl,Hb0.out.trans (hb9.mono (by simp))⟩
theorem Zsv (p:GProg) (vp vm:Value) (B wb cb:Nat) (pt:GPt) (x:GIns) (va vl:Value) (w:World) (hm:(pt,x)∈pts p) (hc:ClAt w B wb cb p vp vm) (hi:InsAt w B x va vl):
  Calls Tryz.prog 170 #[ptA pt,Uh x va vl,.pointer (some ⟨cb,0,none⟩)] w fun e w'=>e=.returned (.bool (x.lb9.any fun s=> !((Yx p pt.1).any fun b=>b.label == s)))/\Below w.heap.size w w':=by
 obtain⟨A4,d4,rfl,m4,_,_,_⟩:=hi.args.open_;obtain⟨A5,d5,rfl,m5,_,_,_⟩:=hi.lb9.open_;obtain⟨w0,hw0⟩:∃ w0:World,w0=(w.alloc (.cells #[.int .i64 pt.1,.int .i64 pt.2.1,.int .i64 pt.2.2] 41)).alloc (.cells #[.int .u8 x.op,.string ⟨x.dst.toArray⟩,.string ⟨x.a.toArray⟩,.string ⟨x.b.toArray⟩,.int .i64 x.n,.string ⟨x.fn.toArray⟩,.slice A4 x.args.length d4,.slice A5 x.lb9.length d5] 25):=⟨_,rfl⟩
 have hb0:Below w.heap.size w w0:=by rw[hw0];exact ((Below.refl w.heap.size w).alloc (Lf _) _).alloc (by simp) _
 have hsz0:w0.heap.size=w.heap.size+2:=by rw[hw0];simp
 have hc1:=hc.below hb0;have hlt:=hc.lt;have hwl:wb<w.heap.size:=by have:=hc.walk.lt;have:=hc.hB;omega
 have hbox:=hc.box;have hcn:cb≠w.heap.size:=by omega
 have hwn:wb≠w.heap.size:=by omega
 unfold ptA Uh;obtain⟨f,y,hf0,hy0,hx0⟩:=Ut hm;have hkf:=(Le hf0).1;have hpb:w0.heap[w.heap.size]?=some (.cells #[.int .i64 pt.1,.int .i64 pt.2.1,.int .i64 pt.2.2] 41 (0,0)):=by rw[hw0];exact Zc (La w _) _
 have Hc:Hid (Calls Tryz.prog 142 #[.slice A5 x.lb9.length d5,.func (.func 171) #[] #[.pointer (some ⟨cb,0,none⟩),.pointer (some ⟨w.heap.size,0,none⟩)]] w0 fun e w'=>e=.returned (.bool (x.lb9.any fun s=> !((Yx p pt.1).any fun b=>b.label == s)))/\Below w0.heap.size w0 w'):=
  Xy (.slice A5 x.lb9.length d5) x.lb9 171 #[.pointer (some ⟨cb,0,none⟩),.pointer (some ⟨w.heap.size,0,none⟩)] w0 B (fun s=> !((Yx p pt.1).any fun b=>b.label == s)) (by have:=hc.hB;omega) (hi.lb9.below strR.keeps hb0 hc.hB)
   (enters_of Tryz.func171 (by kernel_rfl) rfl)
   (fun s W hb _=>(Zmk p vp vm B wb cb w.heap.size pt.1 s W (hc1.below hb) ((hb.cell (p:=⟨w.heap.size,0,none⟩) (show w.heap.size<w0.heap.size by omega)).trans ((Za hpb).1 0)) (by have:=hb.size;omega) hkf).mono fun e w' ⟨he,hb'⟩=>⟨he,hb.trans (hb'.mono hb.size)⟩)
 have Hb0:=hid hb0;rw[hw0] at Hc Hb0;obtain⟨an,han⟩:∃ an,an=x.lb9.any fun s=> !((Yx p pt.1).any fun b=>b.label == s):=⟨_,rfl⟩
 rw[<-han] at Hc ⊢;clear han hc hc1 hi hb0 hsz0 hw0 hm hf0 hy0 hx0 hpb;go_enter Tryz.func170,Tryz.ntmps170;go_wp2_with (go_at_call 142;refine Hc.out.mono ?_;rintro e w1 ⟨rfl,hb9⟩);go_ret;exact⟨rfl,Hb0.out.trans (hb9.mono (by simp;omega))⟩
theorem Zct:∀ args w,(callFunc 170 args).run Tryz.prog w=.ok (.enter 170 args) w:=enters_of Tryz.func170 (by kernel_rfl) rfl
theorem Zml (p:GProg) (vp vm:Value) (B wb:Nat) (w:World) (hB:B<=w.heap.size) (h:WalkAt w B wb p vp vm):
  Calls Tryz.prog 118 #[.pointer (some ⟨wb,0,none⟩)] w fun e w'=>e=.returned (ptV (Jz p))/\w.grownBy w' none:=by
 obtain⟨w0,hw0⟩:∃ w0:World,w0=(w.alloc (.cells #[.pointer (some ⟨wb,0,none⟩)] 175)).alloc (.cells z3 41):=⟨_,rfl⟩
 have hb0:Below w.heap.size w w0:=by rw[hw0];exact ((Below.refl w.heap.size w).alloc (Lf _) _).alloc (by simp) _
 have hsz0:w0.heap.size=w.heap.size+2:=by rw[hw0];simp
 have hc0:w0.heap[w.heap.size]?=some (.cells #[.pointer (some ⟨wb,0,none⟩)] 175 (0,0)):=by rw[hw0];exact Zc (La w _) _
 have hz0:w0.heap[w.heap.size+1]?=some (.cells z3 41 (0,0)):=by
  have:=La (w.alloc (.cells #[.pointer (some ⟨wb,0,none⟩)] 175)) (.cells z3 41);rw[hw0];simpa using this
 have hcl0:ClAt w0 B wb w.heap.size p vp vm:=⟨h.below hb0 hB,(Za hc0).1 0,by omega,by omega⟩
 have hc:=Ku p vp vm B wb 170 #[.pointer (some ⟨w.heap.size,0,none⟩)] w0 none (fun _ W=>Below w0.heap.size w0 W) (fun _ pt x=>x.lb9.any fun s=> !((Yx p pt.1).any fun b=>b.label == s)) (by omega) (h.below hb0 hB)
  (fun r e=>by cases e) (fun _ _ _ r e=>by cases e) Zct (fun k W W' h1 h2=>h1.trans h2) (Below.refl _ _)
  (fun k pt x va vl W hm hj hg hi _=>(Zsv p vp vm B wb w.heap.size pt x va vl W hm (hcl0.below hj) hi).mono fun e W' ⟨he,hb⟩=>⟨he,fun _=>hj.trans (hb.mono hj.size),Zj hb⟩)
 rw[show Zbn p (fun _ pt x=>x.lb9.any fun s=> !((Yx p pt.1).any fun b=>b.label == s))=Jz p from rfl] at hc;have hlt:wb<w.heap.size:=by have:=h.lt;omega
 have hgw:∀ w1,w0.grownBy w1 none->w1.heap[w.heap.size+1]?=some (.cells z3 41 (0,0))/\w.grownBy w1 none:=fun w1 hg1=>
  ⟨(hg1.block _ (by omega) (by simp)).trans hz0,Zb (Zj hb0) hg1⟩
 rw[hw0] at hc;have Hgw:=hid hgw;rw[hw0] at Hgw;clear h hgw hz0 hc0 hb0 hsz0 hw0 hcl0;obtain⟨r,hr⟩:∃ r,r=Jz p:=⟨_,rfl⟩
 rw[<-hr] at hc ⊢;clear hr
 cases r with
 |none=>
  change Calls _ _ _ _ (fun e w'=>e=.returned (.tuple #[.agg #[.int .i64 0,.int .i64 0,.int .i64 0],.bool false])/\_) at hc;go_enter Tryz.func118,Tryz.ntmps118;go_wp2_with (go_at_call 163;refine hc.mono ?_;rintro e w1 ⟨rfl,hg1⟩;obtain⟨hb1,hb2⟩:=Za (Hgw.out w1 hg1).1);refine bodyPost_ret (v:=ptV none) (by simp[results,Tryz.results118,go_sem,ptV,ptC,hb1]) rfl ⟨rfl,?_⟩
  repeat (first|exact (Hgw.out w1 hg1).2|refine Zi ?_ (Nat.le_succ _) _)
 |some q=>
  obtain⟨a,b,c⟩:=q;change Calls _ _ _ _ (fun e w'=>e=.returned (.tuple #[.agg #[.int .i64 a,.int .i64 b,.int .i64 c],.bool true])/\_) at hc;go_enter Tryz.func118,Tryz.ntmps118;go_wp2_with (go_at_call 163;refine hc.mono ?_;rintro e w1 ⟨rfl,hg1⟩;obtain⟨hb1,hb2⟩:=Za (Hgw.out w1 hg1).1);refine bodyPost_ret (v:=ptV (some (a,b,c))) (by simp[results,Tryz.results118,go_sem,ptV,ptC,hb1]) rfl ⟨rfl,?_⟩
  repeat (first|exact (Hgw.out w1 hg1).2|refine Zi ?_ (Nat.le_succ _) _)

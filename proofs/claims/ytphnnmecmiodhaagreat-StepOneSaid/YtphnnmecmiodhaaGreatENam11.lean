/- The contract of names.walk.badInstr. Conditions: the program and the shapes lie in memory. -/
import Derived.Test.YtphnnmecmiodhaaGreatENamBa
import Derived.Test.YtphnnmecmiodhaaGreatENamBb
import Derived.Test.YtphnnmecmiodhaaGreatENamBc
import Derived.Test.YtphnnmecmiodhaaGreatENdb
set_option maxHeartbeats 400000
set_option linter.unusedVariables false
set_option linter.unusedSimpArgs false
namespace Go.Proofs.YtphnnmecmiodhaaGreat
open Lib(hid)
open Go.RowKit
theorem Zfh (vm:Value) (wb cb mb:Nat) (pt:GPt) (x:GIns) (A4 A5:Option Addr) (d4 d5:Nat) (w:World) (n1: -9223372036854775808≤x.n) (n2:x.n≤9223372036854775807) (m4:x.args.length≤9223372036854775807) (m5:x.labels.length≤9223372036854775807)
  (hbox:w.cell? ⟨cb,0,none⟩=some (.pointer (some ⟨wb,0,none⟩))) (hlt:cb<w.heap.size) (hwl:wb<w.heap.size) (c1:w.cell? ⟨wb,1,none⟩=some (.map (some mb))) (hmb:w.heap[mb]?=some shapeObj):
  Calls Tryz.prog 209 #[.agg #[.int .i64 pt.1,.int .i64 pt.2.1,.int .i64 pt.2.2],.agg #[.int .u8 x.op,.string ⟨x.dst.toArray⟩,.string ⟨x.a.toArray⟩,.string ⟨x.b.toArray⟩,.int .i64 x.n,.string ⟨x.fn.toArray⟩,.slice A4 x.args.length d4,.slice A5 x.labels.length d5],.pointer (some ⟨cb,0,none⟩)] w fun e w'=>
   e=.returned (.bool (Zm x))∧Below w.heap.size w w':=by
 have cs:x.op=1∨x.op=2∨x.op=3∨x.op=4∨x.op=5∨x.op=6∨x.op=7∨x.op=8∨x.op=9∨x.op=10∨x.op=11∨x.op=12∨x.op=13∨x.op=14∨(x.op=0∨15≤x.op):=by omega
 rcases cs with h|h|h|h|h|h|h|h|h|h|h|h|h|h|h
 ·exact Zjf vm wb cb mb pt x A4 A5 d4 d5 w h n1 n2 m4 m5 hbox hlt hwl c1 hmb
 ·exact Zjg vm wb cb mb pt x A4 A5 d4 d5 w h n1 n2 m4 m5 hbox hlt hwl c1 hmb
 ·exact Zjh vm wb cb mb pt x A4 A5 d4 d5 w h n1 n2 m4 m5 hbox hlt hwl c1 hmb
 ·exact Zji vm wb cb mb pt x A4 A5 d4 d5 w h n1 n2 m4 m5 hbox hlt hwl c1 hmb
 ·exact Zjj vm wb cb mb pt x A4 A5 d4 d5 w h n1 n2 m4 m5 hbox hlt hwl c1 hmb
 ·exact Zjk vm wb cb mb pt x A4 A5 d4 d5 w h n1 n2 m4 m5 hbox hlt hwl c1 hmb
 ·exact Zjl vm wb cb mb pt x A4 A5 d4 d5 w h n1 n2 m4 m5 hbox hlt hwl c1 hmb
 ·exact Zjm vm wb cb mb pt x A4 A5 d4 d5 w h n1 n2 m4 m5 hbox hlt hwl c1 hmb
 ·exact Zjn vm wb cb mb pt x A4 A5 d4 d5 w h n1 n2 m4 m5 hbox hlt hwl c1 hmb
 ·exact Zhe vm wb cb mb pt x A4 A5 d4 d5 w h n1 n2 m4 m5 hbox hlt hwl c1 hmb
 ·exact Zhf vm wb cb mb pt x A4 A5 d4 d5 w h n1 n2 m4 m5 hbox hlt hwl c1 hmb
 ·exact Zhg vm wb cb mb pt x A4 A5 d4 d5 w h n1 n2 m4 m5 hbox hlt hwl c1 hmb
 ·exact Zhh vm wb cb mb pt x A4 A5 d4 d5 w h n1 n2 m4 m5 hbox hlt hwl c1 hmb
 ·exact Zhi vm wb cb mb pt x A4 A5 d4 d5 w h n1 n2 m4 m5 hbox hlt hwl c1 hmb
 ·refine Zel vm wb cb mb pt x A4 A5 d4 d5 w ?_ n1 n2 m4 m5 hbox hlt hwl c1 hmb;unfold Y0;split<;>first|omega|rfl
theorem Zno (p:GProg) (vp vm:Value) (B wb cb:Nat) (pt:GPt) (x:GIns) (va vl:Value) (w:World) (hm:(pt,x)∈pts p) (hc:ClAt w B wb cb p vp vm) (hi:InsAt w B x va vl) (mb:Nat) (hvm:vm=.map (some mb)) (hmb:w.heap[mb]?=some shapeObj):
  Calls Tryz.prog 209 #[ptA pt,Uh x va vl,.pointer (some ⟨cb,0,none⟩)] w fun e w'=>e=.returned (.bool (Zm x))∧Below w.heap.size w w':=by
 obtain⟨A4,d4,rfl,m4,_,_,_⟩:=hi.args.open_;obtain⟨A5,d5,rfl,m5,_,_,_⟩:=hi.labels.open_;subst hvm;have hlt:=hc.lt;have hwl:wb<w.heap.size:=by have:=hc.walk.lt;have:=hc.hB;omega
 exact Zfh (.map (some mb)) wb cb mb pt x A4 A5 d4 d5 w hi.n1 hi.n2 (by have:=hi.argsLe;omega) (by have:=hi.labelsLe;omega) hc.box hlt hwl hc.walk.c1 hmb
theorem Zbh:∀ args w,(callFunc 209 args).run Tryz.prog w=.ok (.enter 209 args) w:=enters_of Tryz.func209 (by kernel_rfl) rfl
theorem Zjo (p:GProg) (vp vm:Value) (B wb:Nat) (w:World) (hB:B≤w.heap.size) (h:WalkAt w B wb p vp vm) (mb:Nat) (hvm:vm=.map (some mb)) (hmb:w.heap[mb]?=some shapeObj):
  Calls Tryz.prog 142 #[.pointer (some ⟨wb,0,none⟩)] w fun e w'=>e=.returned (ptV (K2 p))∧w.grownBy w' none:=by
 obtain⟨w0,hw0⟩:∃ w0:World,w0=(w.alloc (.cells #[.pointer (some ⟨wb,0,none⟩)] 219)).alloc (.cells z3 41):=⟨_,rfl⟩
 have hb0:Below w.heap.size w w0:=by rw[hw0];exact ((Below.refl w.heap.size w).alloc (Nat.le_refl _) _).alloc (by simp) _
 have hsz0:w0.heap.size=w.heap.size+2:=by rw[hw0];simp
 have hc0:w0.heap[w.heap.size]?=some (.cells #[.pointer (some ⟨wb,0,none⟩)] 219 (0,0)):=by rw[hw0];exact Zc (World.alloc_heap_new w _) _
 have hz0:w0.heap[w.heap.size+1]?=some (.cells z3 41 (0,0)):=by
  have:=World.alloc_heap_new (w.alloc (.cells #[.pointer (some ⟨wb,0,none⟩)] 219)) (.cells z3 41);rw[hw0];simpa using this
 have hcl0:ClAt w0 B wb w.heap.size p vp vm:=⟨h.below hb0 hB,(Za hc0).1 0,by omega,by omega⟩
 have hc:=Ku p vp vm B wb 209 #[.pointer (some ⟨w.heap.size,0,none⟩)] w0 none (fun _ W=>Below w0.heap.size w0 W) (fun _ pt x=>Zm x) (by omega) (h.below hb0 hB)
  (fun r e=>by cases e) (fun _ _ _ r e=>by cases e) Zbh (fun k W W' h1 h2=>h1.trans h2) (Below.refl _ _)
  (fun k pt x va vl W hm hj hg hi _=>(Zno p vp vm B wb w.heap.size pt x va vl W hm (hcl0.below hj) hi mb hvm ((hj.block mb (by have:=Ze hmb;omega)).trans ((hb0.block mb (Ze hmb)).trans hmb))).mono fun e W' ⟨he,hb⟩=>⟨he,fun _=>hj.trans (hb.mono hj.size),Zj hb⟩)
 rw[show Zbn p (fun _ pt x=>Zm x)=K2 p from rfl] at hc;have hlt:wb<w.heap.size:=by have:=h.lt;omega
 have hgw:∀ w1,w0.grownBy w1 none→w1.heap[w.heap.size+1]?=some (.cells z3 41 (0,0))∧w.grownBy w1 none:=fun w1 hg1=>
  ⟨(hg1.block _ (by omega) (by simp)).trans hz0,Zb (Zj hb0) hg1⟩
 rw[hw0] at hc;have Hgw:=hid hgw;rw[hw0] at Hgw;clear h hgw hz0 hc0 hb0 hsz0 hw0 hcl0 hmb;obtain⟨r,hr⟩:∃ r,r=K2 p:=⟨_,rfl⟩
 rw[←hr] at hc ⊢;clear hr
 cases r with
 |none=>
  change Calls _ _ _ _ (fun e w'=>e=.returned (.tuple #[.agg #[.int .i64 0,.int .i64 0,.int .i64 0],.bool false])∧_) at hc;go_enter Tryz.func142,Tryz.ntmps142;go_wp2_with (go_at_call 207;refine hc.mono ?_;rintro e w1 ⟨rfl,hg1⟩;obtain⟨hb1,hb2⟩:=Za (Hgw.out w1 hg1).1);refine bodyPost_ret (v:=ptV none) (by simp[results,Tryz.results142,go_sem,ptV,ptC,hb1]) rfl ⟨rfl,?_⟩
  repeat (first|exact (Hgw.out w1 hg1).2|refine Zi ?_ (Nat.le_succ _) _)
 |some q=>
  obtain⟨a,b,c⟩:=q;change Calls _ _ _ _ (fun e w'=>e=.returned (.tuple #[.agg #[.int .i64 a,.int .i64 b,.int .i64 c],.bool true])∧_) at hc;go_enter Tryz.func142,Tryz.ntmps142;go_wp2_with (go_at_call 207;refine hc.mono ?_;rintro e w1 ⟨rfl,hg1⟩;obtain⟨hb1,hb2⟩:=Za (Hgw.out w1 hg1).1);refine bodyPost_ret (v:=ptV (some (a,b,c))) (by simp[results,Tryz.results142,go_sem,ptV,ptC,hb1]) rfl ⟨rfl,?_⟩
  repeat (first|exact (Hgw.out w1 hg1).2|refine Zi ?_ (Nat.le_succ _) _)
end Go.Proofs.YtphnnmecmiodhaaGreat

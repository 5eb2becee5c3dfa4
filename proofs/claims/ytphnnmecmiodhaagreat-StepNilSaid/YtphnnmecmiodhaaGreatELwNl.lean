/- gnomonlaw14.StepNil: what a machine that is nil answers. No condition. -/
import Derived.Test.YtphnnmecmiodhaaGreatEKs
set_option maxHeartbeats 4000000
set_option maxRecDepth 100000
set_option linter.unusedVariables false
set_option linter.unusedSimpArgs false
namespace Go.Proofs.YtphnnmecmiodhaaGreat
open Lib(hid)
open Go.RowKit Go.Shelf
theorem Zcw (W:World):Calls Tryz.prog 39 #[.pointer none] W fun e w'=>e=.returned (.int .u8 2)∧W=w':=by
 go_enter Tryz.func39,Tryz.ntmps39;go_wp2;go_ret;exact⟨rfl,rfl⟩
theorem Zix (W:World):Calls Tryz.prog 38 #[.pointer none] W fun e w'=>e=.returned (.int .i64 0)∧W=w':=by
 go_enter Tryz.func38,Tryz.ntmps38;go_wp2;go_ret;exact⟨rfl,rfl⟩
theorem Zvk (W:World):Calls Tryz.prog 32 #[.pointer none] W fun e w'=>e=.returned (.tuple #[.agg #[.int .i64 0,.int .i64 0,.int .i64 0],.bool false])∧W.grownBy w' none:=by
 obtain⟨W1,hW1⟩:∃ W1:World,W1=W.alloc (.cells #[.int .i64 0,.int .i64 0,.int .i64 0] 41):=⟨_,rfl⟩
 have hg1:W.grownBy W1 none:=by rw[hW1];exact World.grownBy_alloc _ _ _
 have hbv:W1.heap[W.heap.size]?=some (.cells #[.int .i64 0,.int .i64 0,.int .i64 0] 41 (0,0)):=by rw[hW1];exact World.alloc_heap_new _ _
 have hst:=Zcw W1;have b0:=(Za hbv).1 0;have b1:=(Za hbv).1 1;have b2:=(Za hbv).1 2;have f0:=(Za hbv).2 0;have f1:=(Za hbv).2 1;have f2:=(Za hbv).2 2;have Hbv:=hid hbv;have Hg1:=hid hg1;clear hg1 hbv;go_enter Tryz.func32,Tryz.ntmps32;go_upto_region 1 with (fail)
 rw[←hW1];clear hW1;go_wp2_with (go_at_call 39;refine hst.mono ?_;rintro e w1 ⟨rfl,rfl⟩);obtain⟨wf,hwf⟩:∃ wf:World,wf=((W1.setCell ⟨W.heap.size,0,none⟩ (.int .i64 0)).setCell ⟨W.heap.size,1,none⟩ (.int .i64 0)).setCell ⟨W.heap.size,2,none⟩ (.int .i64 0):=⟨_,rfl⟩
 rw[←hwf];have hbf:=hwf▸Y8 Hbv.out (.int .i64 0) (.int .i64 0) (.int .i64 0);have u0:=(Za hbf).1 0;have u1:=(Za hbf).1 1;have u2:=(Za hbf).1 2;refine bodyPost_ret (v:=.tuple #[.agg #[.int .i64 0,.int .i64 0,.int .i64 0],.bool false]) (by simp[results,Tryz.results32,go_sem,u0,u1,u2]) rfl ⟨rfl,?_⟩;rw[hwf];exact Chg.after Hg1.out (Jm _ _ _ _ _ _ _ _) (fun n hn q=>by omega)
theorem nil_var (W:World) (k:Int):Calls Tryz.prog 35 #[.pointer none,.int .i64 k] W fun e w'=>e=.returned (.tuple #[.agg #[.int .u8 0,.int .i64 0,.int .i64 0],.bool false])∧W.grownBy w' none:=by
 obtain⟨W1,hW1⟩:∃ W1:World,W1=W.alloc (.cells #[.int .u8 0,.int .i64 0,.int .i64 0] 72):=⟨_,rfl⟩
 have hg1:W.grownBy W1 none:=by rw[hW1];exact World.grownBy_alloc _ _ _
 have hbv:W1.heap[W.heap.size]?=some (.cells #[.int .u8 0,.int .i64 0,.int .i64 0] 72 (0,0)):=by rw[hW1];exact World.alloc_heap_new _ _
 have hdp:=Zix W1;have b0:=(Za hbv).1 0;have b1:=(Za hbv).1 1;have b2:=(Za hbv).1 2;have f0:=(Za hbv).2 0;have f1:=(Za hbv).2 1;have f2:=(Za hbv).2 2;have Hbv:=hid hbv;have Hg1:=hid hg1;clear hg1 hbv;go_enter Tryz.func35,Tryz.ntmps35;go_upto_region 1 with (fail)
 rw[←hW1];clear hW1;go_wp2_with (go_at_call 38;refine hdp.mono ?_;rintro e w1 ⟨rfl,rfl⟩);obtain⟨wf,hwf⟩:∃ wf:World,wf=((W1.setCell ⟨W.heap.size,0,none⟩ (.int .u8 0)).setCell ⟨W.heap.size,1,none⟩ (.int .i64 0)).setCell ⟨W.heap.size,2,none⟩ (.int .i64 0):=⟨_,rfl⟩
 rw[←hwf];have hbf:=hwf▸Y8 Hbv.out (.int .u8 0) (.int .i64 0) (.int .i64 0);have u0:=(Za hbf).1 0;have u1:=(Za hbf).1 1;have u2:=(Za hbf).1 2;refine bodyPost_ret (v:=.tuple #[.agg #[.int .u8 0,.int .i64 0,.int .i64 0],.bool false]) (by simp[results,Tryz.results35,go_sem,u0,u1,u2]) rfl ⟨rfl,?_⟩;rw[hwf];exact Chg.after Hg1.out (Jm _ _ _ _ _ _ _ _) (fun n hn q=>by omega)
theorem Zmj (W:World):Calls Tryz.prog 40 #[.pointer none] W fun e w'=>e=.returned (.tuple #[.agg #[.int .i64 0,.int .i64 0,.int .i64 0,.int .i64 0],.bool false])∧W.grownBy w' none:=by
 obtain⟨W1,hW1⟩:∃ W1:World,W1=W.alloc (.cells #[.int .i64 0,.int .i64 0,.int .i64 0,.int .i64 0] 81):=⟨_,rfl⟩
 have hg1:W.grownBy W1 none:=by rw[hW1];exact World.grownBy_alloc _ _ _
 have hbv:W1.heap[W.heap.size]?=some (.cells #[.int .i64 0,.int .i64 0,.int .i64 0,.int .i64 0] 81 (0,0)):=by rw[hW1];exact World.alloc_heap_new _ _
 have b0:=(Za hbv).1 0;have b1:=(Za hbv).1 1;have b2:=(Za hbv).1 2;have b3:=(Za hbv).1 3;have f0:=(Za hbv).2 0;have f1:=(Za hbv).2 1;have f2:=(Za hbv).2 2;have f3:=(Za hbv).2 3;have Hbv:=hid hbv;have Hg1:=hid hg1;clear hg1 hbv;go_enter Tryz.func40,Tryz.ntmps40;go_upto_region 1 with (fail)
 rw[←hW1];clear hW1;go_wp2;obtain⟨wf,hwf⟩:∃ wf:World,wf=(((W1.setCell ⟨W.heap.size,0,none⟩ (.int .i64 0)).setCell ⟨W.heap.size,1,none⟩ (.int .i64 0)).setCell ⟨W.heap.size,2,none⟩ (.int .i64 0)).setCell ⟨W.heap.size,3,none⟩ (.int .i64 0):=⟨_,rfl⟩
 rw[←hwf];have hbf:=hwf▸Zdc Hbv.out (.int .i64 0) (.int .i64 0) (.int .i64 0) (.int .i64 0);have u0:=(Za hbf).1 0;have u1:=(Za hbf).1 1;have u2:=(Za hbf).1 2;have u3:=(Za hbf).1 3;refine bodyPost_ret (v:=.tuple #[.agg #[.int .i64 0,.int .i64 0,.int .i64 0,.int .i64 0],.bool false]) (by simp[results,Tryz.results40,go_sem,u0,u1,u2,u3]) rfl ⟨rfl,?_⟩;rw[hwf];exact Chg.after Hg1.out (chg4 _ _ _ _ _ _ _ _ _ _) (fun n hn q=>by omega)
theorem Zvl (W:World) (c:Int):Calls Tryz.prog 36 #[.pointer none,.int .i64 c] W fun e w'=>e=.returned (.int .u8 2)∧W=w':=by
 have hst:=Zcw W;go_enter Tryz.func36,Tryz.ntmps36;go_wp2_with (go_at_call 39;refine hst.mono ?_;rintro e w' ⟨rfl,rfl⟩);go_ret;exact⟨rfl,rfl⟩
theorem Zsu (W:World):Calls Tryz.prog 41 #[.pointer none] W fun e w'=>e=.returned (.slice none 0 0)∧W.grownBy w' none:=by
 have hat:=Zvk W;go_enter Tryz.func41,Tryz.ntmps41;go_wp2_with (go_at_call 32;refine hat.mono ?_;rintro e w1 ⟨rfl,hg1⟩);go_ret;exact⟨rfl,by first|exact hg1|exact Zd hg1 _⟩
theorem nil_any (c v:Int) (w:World):Calls Tryz.prog 7 #[.int .i64 c,.int .i64 v] w fun e w'=>e=.returned (.bool true)∧w.grownBy w' none:=by
 go_enter Tryz.func7,Tryz.ntmps7;go_upto_region 3 with (go_at_call 32;refine (Zvk _).mono ?_;rintro e w1 ⟨rfl,hg1⟩)
 obtain⟨w2,hw2⟩:∃ w2,w2=w1.alloc (.cells #[.int .i64 0,.int .i64 0,.int .i64 0] 41):=⟨_,rfl⟩
 rw[←hw2];have hg2:w.grownBy w2 none:=by rw[hw2];exact Zd hg1 _
 clear hw2 hg1;go_upto_region 4 with (go_at_call 35;refine (nil_var _ _).mono ?_;rintro e w3 ⟨rfl,hg3⟩)
 obtain⟨w4,hw4⟩:∃ w4,w4=w3.alloc (.cells #[.int .u8 0,.int .i64 0,.int .i64 0] 72):=⟨_,rfl⟩
 rw[←hw4];have hg4:w.grownBy w4 none:=by rw[hw4];exact Zd (Zb hg2 hg3) _
 clear hw4 hg3 hg2;go_upto_region 5 with (go_at_call 40;refine (Zmj _).mono ?_;rintro e w5 ⟨rfl,hg5⟩)
 obtain⟨w6,hw6⟩:∃ w6,w6=w5.alloc (.cells #[.int .i64 0,.int .i64 0,.int .i64 0,.int .i64 0] 81):=⟨_,rfl⟩
 rw[←hw6];have hg6:w.grownBy w6 none:=by rw[hw6];exact Zd (Zb hg4 hg5) _
 clear hw6 hg5 hg4
 go_wp2_with (first
              |(go_at_call 36;refine (Zvl _ _).mono ?_;rintro e w7 ⟨rfl,rfl⟩)
              |(go_at_call 39;refine (Zcw _).mono ?_;rintro e w7 ⟨rfl,rfl⟩)
              |(go_at_call 38;refine (Zix _).mono ?_;rintro e w7 ⟨rfl,rfl⟩)
              |(go_at_call 41;refine (Zsu _).mono ?_;rintro e w8 ⟨rfl,hg8⟩)
              |(go_at_call 30;refine (Xi _).mono ?_;rintro e w9 ⟨rfl,hg9⟩))
 go_ret;exact⟨rfl,Zb hg6 (Zb hg8 hg9)⟩
end Go.Proofs.YtphnnmecmiodhaaGreat

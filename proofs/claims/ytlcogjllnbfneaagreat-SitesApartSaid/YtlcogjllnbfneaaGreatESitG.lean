/- Method Prog of a map of package sites. Conditions in it. -/
import Derived.Test.YtlcogjllnbfneaaGreatEMet
set_option maxHeartbeats 2000000
set_option linter.all false
namespace Go.Proofs.YtlcogjllnbfneaaGreat
open Lib(hid)
open Go.RowKit Go.Shelf
theorem Yiw {lo m:Nat} {p:GProg} {w:World} (h:MapL lo w m p) (hok:CpOk p):Calls Tryz.prog 17 #[.pointer (some ⟨m,0,none⟩)] w fun e w'=>∃ (A:Option Addr) (c:Nat),e=.returned (.agg #[.slice A p.length c])/\(∀ W B',SupI (w.heap.size+1) w' W B'->ProgAt W B' (.slice A p.length c) p/\ProgT (w.heap.size+1) W p (.slice A p.length c))/\w.grownBy w' none:=by
 obtain⟨A,c,vt,ft,mb,AS,cS,AO,cO,AP,cP,hO⟩:=h.open_;obtain⟨W,hW⟩:∃ W:World,W=w.alloc (.cells #[.slice none 0 0] 47):=⟨_,rfl⟩
 have hg:w.grownBy W none:=by rw[hW];exact Lc _ _ _
 have hb:W.heap[w.heap.size]?=some (.cells #[.slice none 0 0] 47 (0,0)):=by rw[hW];exact La _ _
 have hs:W.heap.size=w.heap.size+1:=by rw[hW];simp
 have hp:=Yhr p _ W w.heap.size hg.size (hO.prog.below funR.keeps (Zk hg) (Lf _)) hok;have c0:W.cell? ⟨m,0,none⟩=some (.slice A p.length c):=(Za ((hg.block m (Ze hO.blk) (by simp)).trans hO.blk)).1 0;have Hg:=hid hg;have Hb:=hid hb;have Hs:=hid hs;clear h hO hg hb hs;go_enter Tryz.func17,Tryz.ntmps17;go_upto_region 1 with (fail)
 rw[<-hW];clear hW;go_upto_region 3 with (fail)
 go_wp2_with (go_at_call 60;refine hp.mono ?_;rintro e w2 ⟨v',rfl,-,h2,h3⟩;obtain⟨A4,c4,rfl,-,-,-,-⟩:=(h2 _ _ (SupI.refl _ _)).1.open_;have hb2:=(h3.block _ (Ze Hb.out) (by simp)).trans Hb.out;have f0:=(Za hb2).2 0;have b0:=(Za hb2).1 0;have H2:=hid h2;have H3:=hid h3;have Hb2:=hid hb2;clear h2 h3 hb2);obtain⟨wf,hwf⟩:∃ wf:World,wf=w2.setCell ⟨w.heap.size,0,none⟩ (.slice A4 p.length c4):=⟨_,rfl⟩
 rw[<-hwf];have hbf:=hwf▸Zs Hb2.out 0 (.slice A4 p.length c4);have u0:=(Za hbf).1 0;have hc:Chg (fun n=>n=w.heap.size) w2 wf:=by rw[hwf];exact Chg.set (Q:=fun n=>n=w.heap.size) w2 (p:=⟨w.heap.size,0,none⟩) rfl _
 refine bodyPost_ret (v:=.agg #[.slice A4 p.length c4]) (by simp[results,Tryz.results17,go_sem,u0]) rfl ⟨A4,c4,rfl,fun W' B' hs'=>?_,Chg.after (Zb Hg.out H3.out) hc (fun n hn q=>by omega)⟩;have hq:SupI W.heap.size w2 W' B':=by
  rw[Hs.out];exact hs'.chg hc (fun n h1 h2 q=>by omega)
 have:=H2.out W' B' hq;rw[Hs.out] at this;exact this

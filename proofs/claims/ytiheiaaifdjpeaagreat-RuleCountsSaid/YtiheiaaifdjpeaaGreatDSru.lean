/- The contracts of body.entryPred and its closure. Conditions: the function is known (Body). -/
import Derived.Test.YtiheiaaifdjpeaaGreatDSat
set_option linter.unusedVariables false
set_option linter.unusedSimpArgs false
set_option maxHeartbeats 1000000
set_option maxRecDepth 100000
namespace Go.Proofs.YtiheiaaifdjpeaaGreat
open Lib(hid)
open Go.RowKit Go.Shelf
theorem op6 (o : Nat) : ((o : Int) != 6) = !(o == 6) := by
 by_cases h : o = 6
 ·subst h; rfl
 ·have h1 : (o == 6) = false := beq_eq_false_iff_ne.2 h;have h2 : ((o : Int) == 6) = false := beq_eq_false_iff_ne.2 (by omega);simp [bne, h1, h2]
theorem Zdp (f : GFun) (b B c : Nat) (w : World) (k i : Nat) (x : GIns) (va vl : Value) (h : Body w B b f) (hB : B ≤ w.heap.size) (hc : w.cell? ⟨c, 0, none⟩ = some (.pointer (some ⟨b, 0, none⟩))) (hcl : c < w.heap.size)
  (hi : InsAt w B x va vl) (hne : f.blocks ≠ []) :
  Calls Tryz.prog 137 #[.int .i64 k, .int .i64 i, Ve x va vl, .pointer (some ⟨c, 0, none⟩)] w fun e w' => e = .returned (.bool (V7 f k i x)) ∧ Below w.heap.size w w' := by
 obtain ⟨A1, d1, A2, d2, S, S2, O, M, order, o, h⟩ := h;obtain ⟨A4, d4, q4, _, _, _, _⟩ := hi.args.open_;obtain ⟨A5, d5, q5, _, _, _, hL⟩ := hi.labels.open_;subst q4;subst q5;obtain ⟨j1, _⟩ := Za h.blk;have e2 : w.cell? ⟨b, 2, none⟩ = some (.slice A2 f.blocks.length d2) := j1 2;obtain ⟨A2', d2', hAe, m2, hl2, hc2, hA⟩ := h.fn.blocks.open_;simp only [Value.slice.injEq] at hAe;obtain ⟨rfl, _, rfl⟩ := hAe;have hlen : 0 < f.blocks.length := List.length_pos_iff.2 hne;obtain ⟨y, b1, off1, hy, rfl, hbB1, hr1⟩ := hA.at_ hlen;obtain ⟨A3, d3, hyy, m3, e0, e1⟩ := Yg hr1;have hlt := h.lt;have hwN := World.alloc_heap_new w (.cells #[.int .u8 x.op, .string ⟨x.dst.toArray⟩, .string ⟨x.a.toArray⟩, .string ⟨x.b.toArray⟩, .int .i64 x.n, .string ⟨x.fn.toArray⟩, .slice A4 x.args.length d4, .slice A5 x.labels.length d5] 38);have hhead : Zhm f = y.label := by unfold Zhm Xt; rw [hy]; rfl
 obtain ⟨W, hW⟩ : ∃ W : World, W = w.alloc (.cells #[.int .u8 x.op, .string ⟨x.dst.toArray⟩, .string ⟨x.a.toArray⟩, .string ⟨x.b.toArray⟩, .int .i64 x.n, .string ⟨x.fn.toArray⟩, .slice A4 x.args.length d4, .slice A5 x.labels.length d5] 38) := ⟨_, rfl⟩
 have hbW : Below w.heap.size w W := by rw [hW]; exact (Below.refl _ w).alloc (Nat.le_refl _) _
 have hLW : ∀ n, StrsAt (W.drewN n) B (.slice A5 x.labels.length d5) x.labels := fun n => (hi.labels.below strR.keeps hbW hB).keep strR.keeps fun p hp => by rfl
 rw [← hW] at hwN;have i0 : W.cell? ⟨w.heap.size, 0, none⟩ = some (.int .u8 x.op) := (Za hwN).1 0;have i7 : W.cell? ⟨w.heap.size, 7, none⟩ = some (.slice A5 x.labels.length d5) := (Za hwN).1 7;have e2' : W.cell? ⟨b, 2, none⟩ = some (.slice (some ⟨b1, off1, none⟩) f.blocks.length d2) := cur hbW (by omega) e2;have c0' : W.cell? ⟨c, 0, none⟩ = some (.pointer (some ⟨b, 0, none⟩)) := cur hbW (by omega) hc;have e0' : W.cell? ⟨b1, off1, none⟩ = some (.string ⟨y.label.toArray⟩) := cur hbW (by omega) e0;have hcall := fun n => Kq (.slice A5 x.labels.length d5) x.labels y.label (W.drewN n) B (hLW n)
 have HbW := hid hbW;clear hwN hLW hr1 hyy hy h hA j1 hL hi e2 hc e0 e1
 cases q1 : x.op == 6 with
 | true =>
  have HR := hid (show V7 f k i x = false by simp [V7, q1]);have q2 := (op6 x.op).trans (congrArg not q1);simp only [Bool.not_true, Bool.not_false] at q2;simp only [Ve];go_enter Tryz.func137, Tryz.ntmps137;go_upto_region 1 with (fail)
  rw [← hW];clear hW;have hlen' : (0 : Int) < (f.blocks.length : Int) := by omega
  go_quiet (fail);go_wp2;go_ret;exact ⟨by rw [HR.out]; rfl, by first | exact HbW.out.drewN _ | exact Zk (Zi (Zj HbW.out) _)⟩
 | false =>
  have HR := hid (show V7 f k i x = x.labels.contains y.label by simp [V7, q1, hhead]);have q2 := (op6 x.op).trans (congrArg not q1);simp only [Bool.not_true, Bool.not_false] at q2;simp only [Ve];go_enter Tryz.func137, Tryz.ntmps137;go_upto_region 1 with (fail)
  rw [← hW];clear hW;have hlen' : (0 : Int) < (f.blocks.length : Int) := by omega
  go_quiet ((go_at_call 138; exact (hcall _).mono fun e w' h => ⟨h.1, _, h.2.symm⟩));go_wp2;go_ret;exact ⟨by rw [HR.out]; simp, by first | exact HbW.out.drewN _ | exact Zk (Zi (Zj HbW.out) _)⟩
theorem Zae : ∀ args w, (callFunc 137 args).run Tryz.prog w = .ok (.enter 137 args) w := enters_of Tryz.func137 (by kernel_rfl) rfl
theorem Zgq (f : GFun) (b B : Nat) (w : World) (h : Body w B b f) (hB : B ≤ w.heap.size) (hne : f.blocks ≠ []) :
  Calls Tryz.prog 100 #[.pointer (some ⟨b, 0, none⟩)] w fun e w' => e = .returned (Um (V6 f (V7 f))) ∧ Below w.heap.size w w' := by
 have hb1 : Below w.heap.size w (w.alloc (.cells #[.pointer (some ⟨b, 0, none⟩)] 125)) := (Below.refl _ w).alloc (Nat.le_refl _) _;have h1 := h.below hb1 hB;have hN := World.alloc_heap_new w (.cells #[.pointer (some ⟨b, 0, none⟩)] 125);have hc0 := (Za hN).1 0
 have hfind := Zcf f b B 137 #[.pointer (some ⟨w.heap.size, 0, none⟩)] _ (V7 f) (by simp; omega) h1 Zae (fun k i y x va vl W hy hx hW hi => by
                                                                                                                                  have := Zdp f b B w.heap.size W k i x va vl (h1.below hW (by simp; omega)) (by have := hW.size; simp at this; omega) ((hW.cell (p := ⟨w.heap.size, 0, none⟩) (by simp)).trans hc0) (by have := hW.size; simp at this; omega) hi hne
                                                                                                                                  exact this.mono fun e w' h => ⟨h.1, hW.trans (h.2.mono hW.size)⟩)
 obtain ⟨⟨p, q⟩, hr⟩ : ∃ r : Option (Nat × Nat) × Unit, r.1 = V6 f (V7 f) := ⟨(_, ()), rfl⟩
 rw [← hr] at hfind ⊢;clear h h1 hr hN hc0 hb1;simp only [Um] at hfind;go_enter Tryz.func100, Tryz.ntmps100;go_wp2_with (go_at_call 136; refine hfind.mono ?_; rintro e w' ⟨rfl, hb'⟩);refine bodyPost_ret (v := Um p) (by simp [results, Tryz.results100, go_sem, Um]) rfl ⟨rfl, ?_⟩;exact ((Below.refl _ w).alloc (Nat.le_refl _) _).trans (hb'.mono (by simp))
end Go.Proofs.YtiheiaaifdjpeaaGreat
namespace Go.Proofs.YtiheiaaifdjpeaaGreat
open Lib(hid)
open Go.RowKit Go.Shelf
theorem Zjk (f : GFun) (out : List Bool) (h1 : out.length = f.blocks.length) (h2 : ∀ k, out[k]? = some true ↔ Path (Z5 f.blocks) 0 k) :
  (idxOf (fun x => x == false) out = -1 ∧ Xp f = none) ∨ ∃ k : Nat, idxOf (fun x => x == false) out = k ∧ Xp f = some (k, 0) := by
 have hv : ∀ k, k < f.blocks.length → (out[k]? = some false ↔ Jl (Z5 f.blocks) k = false) := by
  intro k hk;have hs : ∃ v, out[k]? = some v := ⟨_, List.getElem?_eq_getElem (by omega)⟩
  obtain ⟨v, hv⟩ := hs;have := h2 k;unfold Jl;rw [decide_eq_false_iff_not, ← this, hv]
  cases v <;> simp
 rcases Zfb (fun x => x == false) out with ⟨ha, hi⟩ | ⟨j, x, hj, hx, hb, hi⟩
 ·left;refine ⟨hi, ?_⟩;unfold Xp;rw [Option.map_eq_none_iff, List.find?_eq_none];intro k hk;have hk' : k < f.blocks.length := by simpa using hk
  simp only [Bool.not_eq_true', Bool.not_eq_false]
  by_cases hr : Jl (Z5 f.blocks) k = true
  ·exact hr
  ·exfalso
   have := (hv k hk').2 (by simpa using hr);have := ha false (List.mem_of_getElem? this);simp at this
 ·right;have hjl : j < f.blocks.length := by rw [← h1]; exact (List.getElem?_eq_some_iff.1 hj).1
  refine ⟨j, hi, ?_⟩;have hxf : x = false := by simpa using hx
  subst hxf;have hf : ((List.range f.blocks.length).find? fun k => !(Jl (Z5 f.blocks) k)) = some j := by
   rw [List.find?_range_eq_some];refine ⟨by simp [(hv j hjl).1 hj], by simpa using hjl, fun i hi => ?_⟩;have hil : i < f.blocks.length := by omega
   by_cases hr : Jl (Z5 f.blocks) i = true
   ·simp [hr]
   ·have h3 := (hv i hil).2 (by simpa using hr);have := hb i hi false h3;simp at this
  unfold Xp;rw [hf];rfl
theorem Zgy (f : GFun) (b B : Nat) (w : World) (h : Body w B b f) (hB : B ≤ w.heap.size) (hok : OfOk f.blocks) (hne : f.blocks ≠ []) :
  Calls Tryz.prog 101 #[.pointer (some ⟨b, 0, none⟩)] w fun e w' => e = .returned (Um (Xp f)) ∧ Below w.heap.size w w' := by
 obtain ⟨A1, d1, A2, d2, S, S2, O, M, order, o, h⟩ := h;obtain ⟨j1, _⟩ := Za h.blk;have e3 : w.cell? ⟨b, 3, none⟩ = some (.slice (some ⟨S, 0, none⟩) f.blocks.length f.blocks.length) := j1 3;have hlen : 0 < f.blocks.length := List.length_pos_iff.2 hne;have hlt := h.lt;obtain ⟨w1, hw1⟩ : ∃ w1 : World, w1 = w.alloc (.cells #[.int .i64 0] 3) := ⟨_, rfl⟩
 have hb1 : Below w.heap.size w w1 := by rw [hw1]; exact (Below.refl _ w).alloc (Nat.le_refl _) _
 have hz : w1.cell? ⟨w.heap.size, 0, none⟩ = some (.int .i64 0) := by rw [hw1]; exact (Za (World.alloc_heap_new w _)).1 0
 have hf : NatsAt w1 w1.heap.size (.slice (some ⟨w.heap.size, 0, none⟩) 1 1) [0] := by
  refine ⟨_, 1, rfl, by simp, by unfold maxLen; omega, fun k x hx => ⟨w.heap.size, 0, rfl, by rw [hw1]; simp, ?_⟩⟩
  rcases k with _ | k
  ·simp at hx; subst hx; exact ⟨hz, by omega⟩
  ·simp at hx
 have hr := Zqp (.slice (some ⟨S, 0, none⟩) f.blocks.length f.blocks.length) (.slice (some ⟨w.heap.size, 0, none⟩) 1 1) (Z5 f.blocks) [0] w1.heap.size w1 (Nat.le_refl _) ((h.succ.below rowR.keeps hb1 hB).more rowR.keeps (by rw [hw1]; simp; omega)) (Zbp hok) hf (fun x hx => by simp at hx; subst hx; rw [Zq]; exact hlen);have Hb1 := hid hb1;clear h hz hf hb1 j1;go_enter Tryz.func101, Tryz.ntmps101;go_upto_region 2 with (fail)
 repeat go_step
 rw [← hw1];refine hr.mono ?_;rintro e w2 ⟨O2, out, rfl, hO, hblk, hol, hiff, hb2⟩;rw [Zq] at hol;have hbt : Below w.heap.size w w2 := Hb1.out.trans (hb2.mono (by rw [hw1]; simp));have hbo : BoolsAt w2 w2.heap.size (.slice (some ⟨O2, 0, none⟩) f.blocks.length f.blocks.length) out := by
  refine ⟨_, f.blocks.length, by rw [hol], by omega, by unfold maxLen; have := hok.len; omega, fun k x hx => ⟨O2, 0, rfl, Ze hblk, ?_⟩⟩;show w2.cell? _ = _;rw [(Za hblk).1];simp [hx]
 have hidx := Zmm _ out false w2 w2.heap.size hbo;have hun := Zjk f out hol (fun k => by rw [hiff]; simp);clear hbo hiff hblk hb2 hr hw1 Hb1 e3;rw [Zq]
 rcases hun with ⟨hi, hu⟩ | ⟨k, hi, hu⟩
 ·rw [hi] at hidx;have Hu := hid hu;clear hu hi;go_wp2_with (go_at_call 140; refine hidx.mono ?_; rintro e w' ⟨rfl, rfl⟩);refine bodyPost_ret (v := Um none) (by simp [results, Tryz.results101, go_sem, Um]; rfl) rfl ⟨by rw [Hu.out], hbt⟩
 ·rw [hi] at hidx;have Hu := hid hu;have hk0 : (0 : Int) ≤ (k : Int) := by omega
  clear hu hi;go_wp2_with (go_at_call 140; refine hidx.mono ?_; rintro e w' ⟨rfl, rfl⟩);refine bodyPost_ret (v := Um (some (k, 0))) (by simp [results, Tryz.results101, go_sem, Um]) rfl ⟨by rw [Hu.out], hbt⟩
end Go.Proofs.YtiheiaaifdjpeaaGreat

/- The contract of names.walk.manyCode. Condition: the program lies in memory. -/
import Derived.Test.YtiheiaaifdjpeaaGreatDFnd
set_option linter.unusedVariables false
set_option linter.unusedSimpArgs false
set_option maxHeartbeats 1000000
namespace Go.Proofs.YtiheiaaifdjpeaaGreat
open Lib(hid)
open Go.RowKit
theorem Zmq (n nb : Nat) (pt : GPt) (x : GIns) (va vl : Value) (B : Nat) (w : World) (hn : n ≤ 4096) (hc : w.heap[nb]? = some (.cells #[.int .i64 n] 3 (0, 0))) (hi : InsAt w B x va vl) :
  Calls Tryz.prog 169 #[ptA pt, Ve x va vl, .pointer (some ⟨nb, 0, none⟩)] w fun e w' => e = .returned (.bool (decide (4096 ≤ n))) ∧ w'.heap[nb]? = some (.cells #[.int .i64 ((n : Int) + 1)] 3 (0, 0)) ∧ w.grownBy w' (some nb) := by
 obtain ⟨A4, d4, rfl, m4, _, _, _⟩ := hi.args.open_;obtain ⟨A5, d5, rfl, m5, _, _, _⟩ := hi.labels.open_;obtain ⟨k1, k2⟩ := Za hc;have hl := Ze hc;have hne : nb ≠ w.heap.size := by omega
 have Hc := hid hc;unfold ptA Ve;clear hi hc
 by_cases h1 : 4096 ≤ n
 all_goals
  first
   | (have h2 : (4096 : Int) < (n : Int) + 1 := by omega)
   | (have h2 : ¬ (4096 : Int) < (n : Int) + 1 := by omega)
  have H1 := hid h1;clear h1;go_enter Tryz.func169, Tryz.ntmps169;go_wp2;go_ret;refine ⟨?_, ?_, ?_⟩
  ·have h1 := H1.out;simp [h1]
   try omega
  ·exact Zb (Zb (Zs Hc.out 0 _) _) _
  ·exact Zd (Zd (Zl (World.grownBy.refl _ _) rfl _) _) _
theorem Zaw : ∀ args w, (callFunc 169 args).run Tryz.prog w = .ok (.enter 169 args) w := enters_of Tryz.func169 (by kernel_rfl) rfl
theorem Ziy (p : GProg) (vp vm : Value) (B wb : Nat) (w : World) (hB : B ≤ w.heap.size) (h : WalkAt w B wb p vp vm) :
  Calls Tryz.prog 120 #[.pointer (some ⟨wb, 0, none⟩)] w fun e w' => e = .returned (ptV (Ju p)) ∧ w.grownBy w' none := by
 obtain ⟨w0, hw0⟩ : ∃ w0 : World, w0 = (w.alloc (.cells z3 42)).alloc (.cells #[.int .i64 0] 3) := ⟨_, rfl⟩
 have hb0 : Below w.heap.size w w0 := by rw [hw0]; exact ((Below.refl w.heap.size w).alloc (Nat.le_refl _) _).alloc (by simp) _
 have hsz0 : w0.heap.size = w.heap.size + 2 := by rw [hw0]; simp
 have hn0 : w0.heap[w.heap.size + 1]? = some (.cells #[.int .i64 0] 3 (0, 0)) := by
  have := World.alloc_heap_new (w.alloc (.cells z3 42)) (.cells #[.int .i64 0] 3);rw [hw0]; simpa using this
 have hz0 : w0.heap[w.heap.size]? = some (.cells z3 42 (0, 0)) := by rw [hw0]; exact Zb (World.alloc_heap_new w _) _
 have hc := Kf p vp vm B wb 169 #[.pointer (some ⟨w.heap.size + 1, 0, none⟩)] w0 (some (w.heap.size + 1)) (fun n W => n ≤ 4096 ∧ W.heap[w.heap.size + 1]? = some (.cells #[.int .i64 n] 3 (0, 0))) (fun n _ _ => decide (4096 ≤ n)) (by omega) (h.below hb0 hB)
  (fun r e => by cases e; omega) (fun _ _ h1 r e => by cases e; exact ⟨_, _, _, h1.2⟩) Zaw (fun k W W' h1 h2 => ⟨h1.1, (h2.block _ (by omega)).trans h1.2⟩) ⟨by omega, hn0⟩
  (fun n pt x va vl W hm hj hg hi _ => (Zmq n (w.heap.size + 1) pt x va vl B W hj.1 hj.2 hi).mono fun e W' ⟨he, hs, hb⟩ => ⟨he, fun hq => ⟨by have := of_decide_eq_false hq; omega, by simpa using hs⟩, hb⟩)
 rw [show Zba p (fun n _ _ => decide (4096 ≤ n)) = Ju p from Q8 fun k x _ => by simp] at hc;have hlt : wb < w.heap.size := by have := h.lt; omega
 have hgw : ∀ w1, w0.grownBy w1 (some (w.heap.size + 1)) → w1.heap[w.heap.size]? = some (.cells z3 42 (0, 0)) ∧ w.grownBy w1 none := fun w1 hg1 =>
  ⟨(hg1.block _ (by omega) (by simp)).trans hz0, Zbc (Zj hb0) hg1 (by omega)⟩
 rw [hw0] at hc;have Hgw := hid hgw;rw [hw0] at Hgw;clear h hgw hz0 hn0 hb0 hsz0 hw0;obtain ⟨r, hr⟩ : ∃ r, r = Ju p := ⟨_, rfl⟩
 rw [← hr] at hc ⊢;clear hr
 cases r with
 | none =>
  change Calls _ _ _ _ (fun e w' => e = .returned (.tuple #[.agg #[.int .i64 0, .int .i64 0, .int .i64 0], .bool false]) ∧ _) at hc;go_enter Tryz.func120, Tryz.ntmps120;go_wp2_with (go_at_call 168; refine hc.mono ?_; rintro e w1 ⟨rfl, hg1⟩; obtain ⟨hb1, hb2⟩ := Za (Hgw.out w1 hg1).1);refine bodyPost_ret (v := ptV none) (by simp [results, Tryz.results120, go_sem, ptV, ptC, hb1]) rfl ⟨rfl, ?_⟩
  repeat (first | exact (Hgw.out w1 hg1).2 | refine Zh ?_ (Nat.le_refl _) _)
 | some q =>
  obtain ⟨a, b, c⟩ := q;change Calls _ _ _ _ (fun e w' => e = .returned (.tuple #[.agg #[.int .i64 a, .int .i64 b, .int .i64 c], .bool true]) ∧ _) at hc;go_enter Tryz.func120, Tryz.ntmps120;go_wp2_with (go_at_call 168; refine hc.mono ?_; rintro e w1 ⟨rfl, hg1⟩; obtain ⟨hb1, hb2⟩ := Za (Hgw.out w1 hg1).1);refine bodyPost_ret (v := ptV (some (a, b, c))) (by simp [results, Tryz.results120, go_sem, ptV, ptC, hb1]) rfl ⟨rfl, ?_⟩
  repeat (first | exact (Hgw.out w1 hg1).2 | refine Zh ?_ (Nat.le_refl _) _)
end Go.Proofs.YtiheiaaifdjpeaaGreat

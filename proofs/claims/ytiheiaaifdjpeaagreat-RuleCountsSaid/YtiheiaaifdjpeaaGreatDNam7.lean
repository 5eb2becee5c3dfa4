/- Contracts of names.walk's manyFuncs, noMain, manyBlocks, twiceFunc. Condition: the program lies in memory. -/
import Derived.Test.YtiheiaaifdjpeaaGreatDNam4
import Derived.StillTailTactics
import Derived.Deep.RegionHeld3
set_option linter.unusedVariables false
set_option linter.unusedSimpArgs false
set_option maxHeartbeats 1000000
set_option maxRecDepth 100000
namespace Go.Proofs.YtiheiaaifdjpeaaGreat
open Lib(hid)
open Go.RowKit
theorem Zix (k : Nat) (x : GFun) (B : Nat) (vp vb : Value) (w : World) (hf : FunAt w B x vp vb) :
  Calls Tryz.prog 167 #[.int .i64 k, .agg #[.string ⟨x.name.toArray⟩, vp, vb]] w fun e w' => e = .returned (.bool (decide (x.blocks.length = 0 ∨ 64 < x.blocks.length))) ∧ w.grownBy w' none := by
 obtain ⟨A1, d1, rfl, m1, n1, o1, _⟩ := hf.params.open_;obtain ⟨A2, d2, rfl, m2, n2, o2, _⟩ := hf.blocks.open_;clear hf
 by_cases h1 : x.blocks.length = 0
 ·have e1 : ((x.blocks.length : Int) == 0) = true := beq_iff_eq.2 (by omega);have H1 := hid h1;clear h1;go_enter Tryz.func167, Tryz.ntmps167;go_wp2;go_ret;exact ⟨by simp [H1.out], World.grownBy_alloc _ _ _⟩
 ·have e1 : ((x.blocks.length : Int) == 0) = false := beq_eq_false_iff_ne.2 (by omega);go_enter Tryz.func167, Tryz.ntmps167;go_wp2;go_ret;refine ⟨(show Ending.returned (Value.bool (decide (64 < (x.blocks.length : Int)))) = _ from ?_), World.grownBy_alloc _ _ _⟩
  congr 2
  rw [Bool.eq_iff_iff];simp only [decide_eq_true_eq];omega
theorem Jz : ∀ args w, (callFunc 167 args).run Tryz.prog w = .ok (.enter 167 args) w := enters_of Tryz.func167 (by kernel_rfl) rfl
theorem Q8 {α β : Type} {l : List α} {g h : Nat → α → Option β} (e : ∀ k x, l[k]? = some x → g k x = h k x) : Zp l g = Zp l h := by
 have key : ∀ (l : List α) (k : Nat), (∀ j x, l[j]? = some x → g (k + j) x = h (k + j) x) → Yr g k l = Yr h k l := by
  intro l
  induction l with
  | nil => intro k _; rfl
  | cons x l ih =>
   intro k e;have e0 := e 0 x rfl;simp only [Nat.add_zero] at e0;simp only [Yr, e0];rw [ih (k + 1) (fun j y hj => by have := e (j + 1) y (by simpa using hj); rwa [show k + (j + 1) = k + 1 + j by omega] at this)]
 exact key l 0 fun j x hx => by rw [Nat.zero_add]; exact e j x hx
theorem Zff (p : GProg) (vp vm : Value) (B wb : Nat) (w : World) (hB : B ≤ w.heap.size) (h : WalkAt w B wb p vp vm) :
  Calls Tryz.prog 118 #[.pointer (some ⟨wb, 0, none⟩)] w fun e w' => e = .returned (ptV (Uk p)) ∧ w.grownBy w' none := by
 have hb0 : Below w.heap.size w (w.alloc (.cells z3 42)) := (Below.refl w.heap.size w).alloc (Nat.le_refl _) _;have hc := Zhl p vp vm B wb 167 #[] (w.alloc (.cells z3 42)) none (fun _ _ => True) (fun k => (p[k]?).any fun x => decide (x.blocks.length = 0 ∨ 64 < x.blocks.length)) (by simp; omega) (h.below hb0 hB)
  (fun r e => by cases e) Jz (fun _ _ _ _ _ => trivial) trivial
  (fun k x fp fb W hx _ _ hf _ => by rw [hx]; exact (Zix k x B fp fb W hf).mono fun e W' ⟨he, hg⟩ => ⟨he, trivial, hg⟩)
 rw [show Zp p (fun i _ => if ((p[i]?).any fun x => decide (x.blocks.length = 0 ∨ 64 < x.blocks.length)) = true then some (i, 0, 0) else none) = Uk p from
  Q8 fun k x hx => by rw [hx]; simp] at hc
 have hlt : wb < w.heap.size := by have := h.lt; omega
 clear h;obtain ⟨r, hr⟩ : ∃ r, r = Uk p := ⟨_, rfl⟩
 rw [← hr] at hc ⊢;clear hr
 cases r with
 | none =>
  change Calls _ _ _ _ (fun e w' => e = .returned (.tuple #[.agg #[.int .i64 0, .int .i64 0, .int .i64 0], .bool false]) ∧ _) at hc;go_enter Tryz.func118, Tryz.ntmps118;go_wp2_with (go_at_call 163; refine hc.mono ?_; rintro e w1 ⟨rfl, hg1⟩; obtain ⟨hb1, hb2⟩ := Za (Xl hg1));refine bodyPost_ret (v := ptV none) (by simp [results, Tryz.results118, go_sem, ptV, ptC, hb1]) rfl ⟨rfl, ?_⟩
  repeat (first | exact Zt hg1 | refine Zh ?_ (Nat.le_refl _) _)
 | some q =>
  obtain ⟨a, b, c⟩ := q;change Calls _ _ _ _ (fun e w' => e = .returned (.tuple #[.agg #[.int .i64 a, .int .i64 b, .int .i64 c], .bool true]) ∧ _) at hc;go_enter Tryz.func118, Tryz.ntmps118;go_wp2_with (go_at_call 163; refine hc.mono ?_; rintro e w1 ⟨rfl, hg1⟩; obtain ⟨hb1, hb2⟩ := Za (Xl hg1));refine bodyPost_ret (v := ptV (some (a, b, c))) (by simp [results, Tryz.results118, go_sem, ptV, ptC, hb1]) rfl ⟨rfl, ?_⟩
  repeat (first | exact Zt hg1 | refine Zh ?_ (Nat.le_refl _) _)
theorem Zlo (l : List Str) (k : Nat) (x : GFun) (B mb r : Nat) (vp vb : Value) (w : World) (hf : FunAt w B x vp vb) (hc : w.cell? ⟨mb, 0, none⟩ = some (.map (some r))) (hr : w.heap[r]? = some (Yb l)) (hmr : mb ≠ r) :
  Calls Tryz.prog 164 #[.int .i64 k, .agg #[.string ⟨x.name.toArray⟩, vp, vb], .pointer (some ⟨mb, 0, none⟩)] w fun e w' =>
   e = .returned (.bool (l.contains x.name)) ∧ w'.heap[r]? = some (Yb (l ++ [x.name])) ∧ w.grownBy w' (some r) := by
 obtain ⟨A1, d1, rfl, m1, n1, o1, _⟩ := hf.params.open_;obtain ⟨A2, d2, rfl, m2, n2, o2, _⟩ := hf.blocks.open_;clear hf;have hlk := fun o => Jn (Zb hr o) x.name
 have hrl := Ze hr;have hrn : r ≠ w.heap.size := by omega
 have hml : mb < w.heap.size := by
  rcases Nat.lt_or_ge mb w.heap.size with h | h
  ·exact h
  ·simp [World.cell?, Array.getElem?_eq_none h] at hc
 have hmn : mb ≠ w.heap.size := by omega
 have Hr := hid hr;obtain ⟨q, hq⟩ : ∃ q, q = l.contains x.name := ⟨_, rfl⟩
 rw [← hq] at hlk ⊢;clear hr hq;go_enter Tryz.func164, Tryz.ntmps164;go_wp2_with (at_mapUpdate; refine Vn rfl _ _ _ (.inl rfl) r l rfl (Zb Hr.out _) x.name rfl rfl ?_; intro w1 ht1 hs1);go_ret;exact ⟨rfl, hs1, ht1.grownRow (World.grownBy_alloc w _ _)⟩
theorem Zaf : ∀ args w, (callFunc 164 args).run Tryz.prog w = .ok (.enter 164 args) w := enters_of Tryz.func164 (by kernel_rfl) rfl
theorem Zbc {w w0 w' : World} {r : Nat} (h : w.grownBy w0 none) (hg : w0.grownBy w' (some r)) (hr : w.heap.size ≤ r) : w.grownBy w' none :=
 ⟨hg.os.trans h.os, hg.tape.trans h.tape, hg.output.trans h.output, Nat.le_trans h.size hg.size, fun k hk _ => (hg.block k (Nat.lt_of_lt_of_le hk h.size) (by simp; omega)).trans (h.block k hk (by simp))⟩
theorem Zgx (p : GProg) (vp vm : Value) (B wb : Nat) (w : World) (hB : B ≤ w.heap.size) (h : WalkAt w B wb p vp vm) :
  Calls Tryz.prog 115 #[.pointer (some ⟨wb, 0, none⟩)] w fun e w' => e = .returned (ptV (Qk p)) ∧ w.grownBy w' none := by
 obtain ⟨w0, hw0⟩ : ∃ w0 : World, w0 = ((w.alloc (.cells z3 42)).alloc (Yb [])).alloc (.cells #[.map (some (w.heap.size + 1))] 212) := ⟨_, rfl⟩
 have hb0 : Below w.heap.size w w0 := by rw [hw0]; exact (((Below.refl w.heap.size w).alloc (Nat.le_refl _) _).alloc (by simp) _).alloc (by simp; omega) _
 have hsz0 : w0.heap.size = w.heap.size + 3 := by rw [hw0]; simp
 have hr0 : w0.heap[w.heap.size + 1]? = some (Yb []) := by
  have := World.alloc_heap_new (w.alloc (.cells z3 42)) (Yb []);rw [hw0]; refine Zb ?_ _; simpa using this
 have hm0 : w0.heap[w.heap.size + 1 + 1]? = some (.cells #[.map (some (w.heap.size + 1))] 212 (0, 0)) := by
  have := World.alloc_heap_new ((w.alloc (.cells z3 42)).alloc (Yb [])) (.cells #[.map (some (w.heap.size + 1))] 212);rw [hw0]; simpa using this
 have hz0 : w0.heap[w.heap.size]? = some (.cells z3 42 (0, 0)) := by rw [hw0]; exact Zb (Zb (World.alloc_heap_new w _) _) _
 have hc := Zhl p vp vm B wb 164 #[.pointer (some ⟨w.heap.size + 1 + 1, 0, none⟩)] w0 (some (w.heap.size + 1))
  (fun k W => W.heap[w.heap.size + 1]? = some (Yb ((p.take k).map (·.name))) ∧ W.heap[w.heap.size + 1 + 1]? = some (.cells #[.map (some (w.heap.size + 1))] 212 (0, 0)))
  (fun k => (p[k]?).any fun x => ((p.take k).map (·.name)).contains x.name) (by omega) (h.below hb0 hB)
  (fun r e => by cases e; omega) Zaf
  (fun k W W' ⟨h1, h2⟩ hg => ⟨(hg.block _ (Ze h1) (by simp)).trans h1, (hg.block _ (Ze h2) (by simp)).trans h2⟩) ⟨hr0, hm0⟩
  (fun k x fp fb W hx ⟨h1, h2⟩ _ hf _ => by
   rw [hx]
   refine (Zlo _ k x B (w.heap.size + 1 + 1) (w.heap.size + 1) fp fb W hf ((Za h2).1 0) h1 (by omega)).mono fun e W' ⟨he, hs, hg⟩ => ⟨he, ⟨by rw [Kc hx]; exact hs, ?_⟩, hg⟩
   exact (hg.block _ (Ze h2) (by simp)).trans h2)
 rw [show Zp p (fun i _ => if ((p[i]?).any fun x => ((p.take i).map (·.name)).contains x.name) = true then some (i, 0, 0) else none) = Qk p from
  Q8 fun k x hx => by rw [hx]; rfl] at hc
 have hlt : wb < w.heap.size := by have := h.lt; omega
 have hgw : ∀ w1, w0.grownBy w1 (some (w.heap.size + 1)) → w1.heap[w.heap.size]? = some (.cells z3 42 (0, 0)) ∧ w.grownBy w1 none := fun w1 hg1 =>
  ⟨(hg1.block _ (by omega) (by simp)).trans hz0, Zbc (Zj hb0) hg1 (by omega)⟩
 rw [hw0] at hc;have hmm := Q5;have Hgw := hid hgw;rw [hw0] at Hgw;clear h hgw hz0 hm0 hr0 hb0 hsz0 hw0;obtain ⟨r, hr⟩ : ∃ r, r = Qk p := ⟨_, rfl⟩
 rw [← hr] at hc ⊢;clear hr
 cases r with
 | none =>
  change Calls _ _ _ _ (fun e w' => e = .returned (.tuple #[.agg #[.int .i64 0, .int .i64 0, .int .i64 0], .bool false]) ∧ _) at hc;go_enter Tryz.func115, Tryz.ntmps115;go_wp2_with (go_at_call 163; refine hc.mono ?_; rintro e w1 ⟨rfl, hg1⟩; obtain ⟨hb1, hb2⟩ := Za (Hgw.out w1 hg1).1);refine bodyPost_ret (v := ptV none) (by simp [results, Tryz.results115, go_sem, ptV, ptC, hb1]) rfl ⟨rfl, ?_⟩
  repeat (first | exact (Hgw.out w1 hg1).2 | refine Zh ?_ (Nat.le_refl _) _)
 | some q =>
  obtain ⟨a, b, c⟩ := q;change Calls _ _ _ _ (fun e w' => e = .returned (.tuple #[.agg #[.int .i64 a, .int .i64 b, .int .i64 c], .bool true]) ∧ _) at hc;go_enter Tryz.func115, Tryz.ntmps115;go_wp2_with (go_at_call 163; refine hc.mono ?_; rintro e w1 ⟨rfl, hg1⟩; obtain ⟨hb1, hb2⟩ := Za (Hgw.out w1 hg1).1);refine bodyPost_ret (v := ptV (some (a, b, c))) (by simp [results, Tryz.results115, go_sem, ptV, ptC, hb1]) rfl ⟨rfl, ?_⟩
  repeat (first | exact (Hgw.out w1 hg1).2 | refine Zh ?_ (Nat.le_refl _) _)
theorem Zmu (p : GProg) (vp vm : Value) (B wb : Nat) (w : World) (hB : B ≤ w.heap.size) (h : WalkAt w B wb p vp vm) :
  Calls Tryz.prog 116 #[.pointer (some ⟨wb, 0, none⟩)] w fun e w' => e = .returned (ptV (Q2 p)) ∧ w.grownBy w' none := by
 obtain ⟨w0, hw0⟩ : ∃ w0 : World, w0 = w.alloc (.cells z3 42) := ⟨_, rfl⟩
 have hb0 : Below w.heap.size w w0 := by rw [hw0]; exact (Below.refl w.heap.size w).alloc (Nat.le_refl _) _
 have hsz0 : w0.heap.size = w.heap.size + 1 := by rw [hw0]; simp
 have hz0 : w0.heap[w.heap.size]? = some (.cells z3 42 (0, 0)) := by rw [hw0]; exact World.alloc_heap_new w _
 have hc := Zby p vp vm Kj B wb w0 (by omega) (h.below hb0 hB) (by simp [Kj]);have hgw : ∀ w1, Below w0.heap.size w0 w1 → w1.heap[w.heap.size]? = some (.cells z3 42 (0, 0)) ∧ w.grownBy w1 none ∧ WalkAt w1 B wb p vp vm ∧ w.heap.size < w1.heap.size := fun w1 hg1 =>
  ⟨(hg1.block _ (by omega)).trans hz0, Zc (Zj hb0) (Zj hg1), (h.below hb0 hB).below hg1 (by omega), by have := hg1.size; omega⟩
 have hlt : wb < w.heap.size := by have := h.lt; omega
 rw [hw0] at hc hgw;simp only [World.size_alloc] at hgw;have Hgw := hid hgw;clear h hgw hz0 hb0 hsz0 hw0;simp only [Kj] at hc;have hn : Xj p Kj = match p.findIdx? (fun f => f.name == Kj) with | some i => (i : Int) | none => -1 := rfl
 unfold Kj at hn
 cases hm : p.findIdx? (fun f => f.name == Kj) with
 | none =>
  unfold Kj at hm;rw [hm] at hn;rw [hn] at hc;have Hr := hid (show Q2 p = some (0, 0, 0) by simp only [Q2, Kj, hm]);clear hm hn;go_enter Tryz.func116, Tryz.ntmps116;go_wp2_with (go_at_call 165; refine hc.mono ?_; rintro e w1 ⟨rfl, hg1⟩; obtain ⟨hb1, hb2⟩ := Za (Hgw.out w1 (by simpa using hg1)).1);refine bodyPost_ret (v := ptV (some (0, 0, 0))) (by simp [results, Tryz.results116, go_sem, ptV, ptC, hb1]) rfl ⟨by rw [Hr.out], ?_⟩
  repeat (first | exact (Hgw.out w1 (by simpa using hg1)).2.1 | refine Zh ?_ (Nat.le_refl _) _)
 | some m =>
  have hml : m < p.length := by
   rw [List.findIdx?_eq_some_iff_getElem] at hm;exact hm.1
  unfold Kj at hm;rw [hm] at hn;rw [hn] at hc;have hpx : ∀ x, p[m]? = some x → x = p[m] := fun x hx => by rw [List.getElem?_eq_getElem hml] at hx; injection hx with hx; exact hx.symm
  have Hpx := hid hpx;clear hpx
  by_cases hpos : 0 < p[m].params.length
  ·have Hr := hid (show Q2 p = some (m, 0, 0) by simp only [Q2, Kj, hm, List.getElem?_eq_getElem hml, Option.map_some, Option.getD_some, if_pos hpos]);have Hpos := hid hpos;clear hm hn hpos;go_enter Tryz.func116, Tryz.ntmps116;go_wp2_with (go_at_call 165; refine hc.mono ?_; rintro e w1 ⟨rfl, hg1⟩; obtain ⟨hz1, hgq, hwq, hlq⟩ := Hgw.out w1 (by simpa using hg1); obtain ⟨hb1, hb2⟩ := Za hz1; obtain ⟨A, c, hve, hmx, hlc, hcm, hA⟩ := hwq.prog.open_; obtain ⟨x, b, off, hx, rfl, hbB, hr⟩ := hA.at_ hml; obtain ⟨A1, d1, A2, d2, hf, m1, m2, e0, e1, e2⟩ := Yh hr; have c0 := hwq.c0; rw [hve] at c0; have hml' : (m : Int) < (p.length : Int) := (by omega); have hps : 0 < x.params.length := (by rw [Hpx.out x hx]; exact Hpos.out); clear hx);refine bodyPost_ret (v := ptV (some (m, 0, 0))) (by simp [results, Tryz.results116, go_sem, ptV, ptC, hb1]) rfl ⟨by rw [Hr.out], ?_⟩
   repeat (first | exact hgq | refine Zh ?_ (Nat.le_refl _) _)
  ·have Hr := hid (show Q2 p = none by simp only [Q2, Kj, hm, List.getElem?_eq_getElem hml, Option.map_some, Option.getD_some, if_neg hpos]);have Hpos := hid hpos;clear hm hn hpos;go_enter Tryz.func116, Tryz.ntmps116;go_wp2_with (go_at_call 165; refine hc.mono ?_; rintro e w1 ⟨rfl, hg1⟩; obtain ⟨hz1, hgq, hwq, hlq⟩ := Hgw.out w1 (by simpa using hg1); obtain ⟨hb1, hb2⟩ := Za hz1; obtain ⟨A, c, hve, hmx, hlc, hcm, hA⟩ := hwq.prog.open_; obtain ⟨x, b, off, hx, rfl, hbB, hr⟩ := hA.at_ hml; obtain ⟨A1, d1, A2, d2, hf, m1, m2, e0, e1, e2⟩ := Yh hr; have c0 := hwq.c0; rw [hve] at c0; have hml' : (m : Int) < (p.length : Int) := (by omega); have hps : ¬ 0 < x.params.length := (by rw [Hpx.out x hx]; exact Hpos.out); clear hx);refine bodyPost_ret (v := ptV none) (by simp [results, Tryz.results116, go_sem, ptV, ptC, hb1]) rfl ⟨by rw [Hr.out], ?_⟩
   repeat (first | exact hgq | refine Zh ?_ (Nat.le_refl _) _)
theorem Zgu (p : GProg) (vp vm : Value) (B wb : Nat) (w : World) (hB : B ≤ w.heap.size) (h : WalkAt w B wb p vp vm) :
  Calls Tryz.prog 113 #[.pointer (some ⟨wb, 0, none⟩)] w fun e w' => e = .returned (ptV (Xy p)) ∧ w.grownBy w' none := by
 obtain ⟨A, c, rfl, hm, hlc, hcm, hA⟩ := h.prog.open_;have c0 := h.c0;have hlt : wb < w.heap.size := by have := h.lt; omega
 have hne : wb ≠ w.heap.size := by omega
 clear h hA
 by_cases h1 : p.length = 0
 ·have e1 : ((p.length : Int) == 0) = true := beq_iff_eq.2 (by omega);have Hr := hid (show Xy p = some (0, 0, 0) by rw [Xy, if_pos (.inl h1)]);clear h1;go_enter Tryz.func113, Tryz.ntmps113;go_wp2;go_region
  all_goals
   go_wp2;refine bodyPost_ret (v := ptV (some (0, 0, 0))) (by simp [results, Tryz.results113, go_sem, ptV, ptC] <;> omega) rfl ⟨by rw [Hr.out], ?_⟩
   repeat (first | exact World.grownBy.refl _ _ | refine Zi ?_ _ | refine Zf ?_ | apply Zd | refine Zh ?_ (Nat.le_refl _) _)
 ·have e1 : ((p.length : Int) == 0) = false := beq_eq_false_iff_ne.2 (by omega)
  by_cases h2 : 64 < p.length
  ·have e2 : (64 : Int) < p.length := by omega
   have Hr := hid (show Xy p = some (0, 0, 0) by rw [Xy, if_pos (.inr h2)]);go_enter Tryz.func113, Tryz.ntmps113;go_wp2;go_region
   all_goals
    go_wp2;refine bodyPost_ret (v := ptV (some (0, 0, 0))) (by simp [results, Tryz.results113, go_sem, ptV, ptC] <;> omega) rfl ⟨by rw [Hr.out], ?_⟩
    repeat (first | exact World.grownBy.refl _ _ | refine Zi ?_ _ | refine Zf ?_ | apply Zd | refine Zh ?_ (Nat.le_refl _) _)
  ·have e2 : ¬ (64 : Int) < p.length := by omega
   have Hr := hid (show Xy p = none by rw [Xy, if_neg (by omega)]);go_enter Tryz.func113, Tryz.ntmps113;go_wp2;go_region
   all_goals
    go_wp2;refine bodyPost_ret (v := ptV none) (by simp [results, Tryz.results113, go_sem, ptV, ptC] <;> omega) rfl ⟨by rw [Hr.out], ?_⟩
    repeat (first | exact World.grownBy.refl _ _ | refine Zi ?_ _ | refine Zf ?_ | apply Zd | refine Zh ?_ (Nat.le_refl _) _)
end Go.Proofs.YtiheiaaifdjpeaaGreat

/- The contract of names.walk.find: a range over the function that names.walk.code answers. Conditions: the program lies in memory; the closure by its contract. -/
import Derived.Test.YtiheiaaifdjpeaaGreatDNam7
import Derived.Shelf.AbstractIn
set_option linter.unusedVariables false
set_option linter.unusedSimpArgs false
set_option maxHeartbeats 4000000
set_option maxRecDepth 100000
namespace Go.Proofs.YtiheiaaifdjpeaaGreat
open Lib(hid)
open Go.RowKit Go.Shelf
attribute [local go_sem] Oper.semAt_some
theorem code_in (n : Nat) (wb : Nat) (w : World) :
  CallsIn Fence.wide n Tryz.prog 203 #[.pointer (some ⟨wb, 0, none⟩)] w fun e w' => e = .returned (.func (.func 236) #[] #[.pointer (some ⟨w.heap.size, 0, none⟩)]) ∧ w' = w.alloc (.cells #[.pointer (some ⟨wb, 0, none⟩)] 175) := by
 refine callsIn_of_wp Tryz.func203 rfl trivial ?_ rfl;simp only [Tryz.ntmps203, List.size_toArray, List.length_cons, List.length_nil, Nat.reduceAdd, Nat.reduceSub, Array.replicate_succ, Array.replicate_zero, List.push_toArray, List.append_toArray, List.nil_append, List.cons_append];gi_wp2;go_ret;exact ⟨rfl, rfl⟩
theorem Zmb (n : Nat) (hn : 1 ≤ n) (cb wb B : Nat) (p : GProg) (vp vm : Value) (w0 : World) (h : WalkAt w0 B wb p vp vm) (w : World) (hw : Below B w0 w) (hcb : cb < w.heap.size) (hB : B ≤ w.heap.size) (hc : w.cell? ⟨cb, 0, none⟩ = some (.pointer (some ⟨wb, 0, none⟩))) :
  SeqStopsK Fence.wide n Tryz.prog 236 #[.pointer (some ⟨cb, 0, none⟩)] (Zis (w0 := w0) (B := B) (p := p)) (Below B) (fun xs => xs.map pj = pts p) (fun pre => pre.map pj <+: pts p) (pts p).length w := fun l J Jx W hW hJ _ hY h0 =>
 Zpg n hn l cb wb B p vp vm w0 h J Jx (fun s W' o hs => hJ s W' _ none hs (World.grownBy_alloc W' o none) (fun r e => by cases e)) hY W (hw.trans (hW.mono hB)) (Nat.le_trans hB hW.size) ((hW.cell (p := ⟨cb, 0, none⟩) hcb).trans hc) h0
def Zba (p : GProg) (q : Nat → GPt → GIns → Bool) : Option GPt := Zp (pts p) fun n y => if q n y.1 y.2 then some y.1 else none
theorem Zmi {w0 : World} {B : Nat} {p : GProg} {q : Nat → GPt → GIns → Bool} {xs : List (Pt4 w0 B p)} (hx : xs.map pj = pts p) (h : ∀ j y, xs[j]? = some y → q j y.1.1 y.1.2.1 = false) : Zba p q = none := by
 refine Zx fun j _ y hy => ?_
 rw [← hx, List.getElem?_map] at hy
 cases hz : xs[j]? with
 | none => rw [hz] at hy; cases hy
 | some z =>
  rw [hz] at hy;injection hy with hy
  subst hy;have := h j z hz;simp [pj, this]
theorem Zmj {w0 : World} {B : Nat} {p : GProg} {q : Nat → GPt → GIns → Bool} {xs : List (Pt4 w0 B p)} {x : Pt4 w0 B p} (hx : (xs ++ [x]).map pj <+: pts p) (h : ∀ j y, xs[j]? = some y → q j y.1.1 y.1.2.1 = false) (hq : q xs.length x.1.1 x.1.2.1 = true) : Zba p q = some x.1.1 := by
 obtain ⟨t, ht⟩ := hx;refine Zn (n := xs.length) (x := pj x) (fun j hj y hy => ?_) ?_ (by simp [pj, hq])
 ·rw [← ht, List.getElem?_append_left (by simp; omega), List.getElem?_map, List.getElem?_append_left hj] at hy
  cases hz : xs[j]? with
  | none => rw [hz] at hy; cases hy
  | some z =>
   rw [hz] at hy;injection hy with hy
   subst hy;have := h j z hz;simp [pj, this]
 ·rw [← ht, List.getElem?_append_left (by simp)];simp
def Same (a b : Nat) (w0 W : World) : Prop := ∀ k, a ≤ k → k < b → W.heap[k]? = w0.heap[k]?
theorem Yv {W W' : World} {row : Option Nat} (hg : W.grownBy W' row) (hr : ∀ r, row = some r → ∃ cs t f, W.heap[r]? = some (.cells cs t f)) : KeepsOthers W W' :=
 ⟨hg.size, fun k o hk ho => (hg.block k (Array.getElem?_eq_some_iff.1 hk).1 (fun e => by
                                                                             obtain ⟨cs, t, f, hc⟩ := hr k e.symm
                                                                             rw [hk] at hc
                                                                             cases hc
                                                                             cases ho)).trans hk⟩
structure FindI (w wL : World) (row : Option Nat) (J : Nat → World → Prop) (q : Nat → GPt → GIns → Bool) {w0 : World} {B : Nat} {p : GProg} (pre : List (Pt4 w0 B p)) (W : World) : Prop where
 st : J pre.length W
 gr : w.grownBy W row
 sm : Same w.heap.size wL.heap.size wL W
 sz : wL.heap.size ≤ W.heap.size
 no : ∀ j y, pre[j]? = some y → q j y.1.1 y.1.2.1 = false
structure FindX (w wL : World) (row : Option Nat) (q : Nat → GPt → GIns → Bool) {w0 : World} {B : Nat} {p : GProg} (c : Code) (pre : List (Pt4 w0 B p)) (W : World) : Prop where
 ret : c = .ret
 sp : ∃ ys x, pre = ys ++ [x] ∧ (∀ j y, ys[j]? = some y → q j y.1.1 y.1.2.1 = false) ∧ q ys.length x.1.1 x.1.2.1 = true ∧ W.heap[w.heap.size + 1]? = some (.cells #[.int .i64 x.1.1.1, .int .i64 x.1.1.2.1, .int .i64 x.1.1.2.2] 42 (0, 0))
 r2 : W.heap[w.heap.size + 1 + 1]? = some (.cells #[.bool true] 4 (0, 0))
 gr : w.grownBy W row
theorem Zhh {w wL : World} {row : Option Nat} {J : Nat → World → Prop} {q : Nat → GPt → GIns → Bool} {w0 : World} {B : Nat} {p : GProg} (hJ : ∀ k W W', J k W → Below w.heap.size W W' → J k W') (hL : w.heap.size ≤ wL.heap.size) :
  OwnFrom wL.heap.size (FindI w wL row J q (w0 := w0) (B := B) (p := p)) := fun pre W W' row' hs hg hr =>
 have hk : ∀ k, k < wL.heap.size → W'.heap[k]? = W.heap[k]? := fun k hk => hg.block k (Nat.lt_of_lt_of_le hk hs.sz) (fun e => by have := (hr k e.symm).1; omega)
 ⟨hJ _ W W' hs.st ⟨hg.os, hg.tape, hg.output, hg.size, fun k h => hk k (by omega)⟩, Yo hs.gr hg (fun r e => Nat.le_trans hL (hr r e).1), fun k h1 h2 => (hk k h2).trans (hs.sm k h1 h2), Nat.le_trans hs.sz hg.size, hs.no⟩
theorem Zpn {w wL : World} {row : Option Nat} {q : Nat → GPt → GIns → Bool} {w0 : World} {B : Nat} {p : GProg} (c : Code) (hL : w.heap.size + 3 ≤ wL.heap.size) :
  OwnFrom wL.heap.size (FindX w wL row q (w0 := w0) (B := B) (p := p) c) := fun pre W W' row' hs hg hr => by
 obtain ⟨ys, x, e, h1, h2, h3⟩ := hs.sp;have hk : ∀ k o, k < wL.heap.size → W.heap[k]? = some o → W'.heap[k]? = some o := fun k o hk ho => (hg.block k (Ze ho) (fun e => by have := (hr k e.symm).1; omega)).trans ho
 exact ⟨hs.ret, ⟨ys, x, e, h1, h2, hk _ _ (by omega) h3⟩, hk _ _ (by omega) hs.r2, Yo hs.gr hg (fun r e => by have := (hr r e).1; omega)⟩
theorem Zs {w : World} {g : Nat} {cs : Array Value} {t : TypeId} (h : w.heap[g]? = some (.cells cs t (0, 0))) (i : Nat) (u : Value) : (w.setCell ⟨g, i, none⟩ u).heap[g]? = some (.cells (cs.setIfInBounds i u) t (0, 0)) := by
 simp [World.setCell, Array.getElem?_modify, h]
theorem Yn {w : World} {g : Nat} {o : Obj} (h : w.heap[g]? = some o) {p : Addr} (hp : g ≠ p.block) (u : Value) : (w.setCell p u).heap[g]? = some o := (Below.heap_setCell w p u g hp).trans h
theorem Zlk {w : World} {g : Nat} {a b c : Value} {t : TypeId} (h : w.heap[g]? = some (.cells #[a, b, c] t (0, 0))) (x y z : Value) :
  (((w.setCell ⟨g, 0, none⟩ x).setCell ⟨g, 1, none⟩ y).setCell ⟨g, 2, none⟩ z).heap[g]? = some (.cells #[x, y, z] t (0, 0)) :=
 Zs (Zs (Zs h 0 x) 1 y) 2 z
theorem Kh (w : World) (a b c d : Addr) (x y z u : Value) : KeepsOthers w ((((w.setCell a x).setCell b y).setCell c z).setCell d u) :=
 (((KeepsOthers.setCell w a x).trans (KeepsOthers.setCell _ b y)).trans (KeepsOthers.setCell _ c z)).trans (KeepsOthers.setCell _ d u)
theorem Kf (p : GProg) (vp vm : Value) (B wb g : Nat) (lb : Array Value) (w : World) (row : Option Nat) (J : Nat → World → Prop) (q : Nat → GPt → GIns → Bool) (hB : B ≤ w.heap.size) (h : WalkAt w B wb p vp vm)
  (hrow : ∀ r, row = some r → B ≤ r ∧ r < w.heap.size) (hrowc : ∀ k W, J k W → ∀ r, row = some r → ∃ cs t f, W.heap[r]? = some (.cells cs t f))
  (eg : ∀ args w, (callFunc g args).run Tryz.prog w = .ok (.enter g args) w)
  (hJ : ∀ k W W', J k W → Below w.heap.size W W' → J k W') (h0 : J 0 w)
  (hp : ∀ n pt x va vl W, (pt, x) ∈ pts p → J n W → w.grownBy W row → InsAt W B x va vl → n < (pts p).length →
   Calls Tryz.prog g (#[ptA pt, Ve x va vl] ++ lb) W fun e W' => e = .returned (.bool (q n pt x)) ∧ (q n pt x = false → J (n + 1) W') ∧ W.grownBy W' row) :
  Calls Tryz.prog 168 #[.pointer (some ⟨wb, 0, none⟩), .func (.func g) #[] lb] w fun e w' => e = .returned (ptV (Zba p q)) ∧ w.grownBy w' row := by
 refine (callsIn_wide (n := 8)).1 ?_;refine callsIn_of_wp_marks Tryz.func168 rfl trivial ?_ rfl;simp only [Tryz.ntmps168, List.size_toArray, List.length_cons, List.length_nil, Nat.reduceAdd, Nat.reduceSub, Array.replicate_succ, Array.replicate_zero, List.push_toArray, List.append_toArray, List.nil_append, List.cons_append];gi_wp2_with (refine ⟨trivial, ?_⟩; gi_at_call 203; refine (code_in _ _ _).mono ?_; rintro e w' ⟨rfl, rfl⟩);obtain ⟨wL, hwL⟩ : ∃ wL : World, wL = (((w.alloc (.cells #[.func (.func g) #[] lb] 144)).alloc (.cells #[.int .i64 0, .int .i64 0, .int .i64 0] 42)).alloc (.cells #[.bool false] 4)).alloc (.cells #[.pointer (some ⟨wb, 0, none⟩)] 175) := ⟨_, rfl⟩
 have hsL : wL.heap.size = w.heap.size + 4 := by rw [hwL]; simp
 have hbL : Below w.heap.size w wL := by
  rw [hwL];exact ((((Below.refl w.heap.size w).alloc (Nat.le_refl _) _).alloc (by simp) _).alloc (by simp; omega) _).alloc (by simp; omega) _
 have hf0 : wL.heap[w.heap.size]? = some (.cells #[.func (.func g) #[] lb] 144 (0, 0)) := by
  rw [hwL]; exact Zb (Zb (Zb (World.alloc_heap_new w _) _) _) _
 have hf1 : wL.heap[w.heap.size + 1]? = some (.cells #[.int .i64 0, .int .i64 0, .int .i64 0] 42 (0, 0)) := by
  have := World.alloc_heap_new (w.alloc (.cells #[.func (.func g) #[] lb] 144)) (.cells #[.int .i64 0, .int .i64 0, .int .i64 0] 42);rw [hwL]; refine Zb (Zb ?_ _) _; simpa using this
 have hf2 : wL.heap[w.heap.size + 1 + 1]? = some (.cells #[.bool false] 4 (0, 0)) := by
  have := World.alloc_heap_new ((w.alloc (.cells #[.func (.func g) #[] lb] 144)).alloc (.cells #[.int .i64 0, .int .i64 0, .int .i64 0] 42)) (.cells #[.bool false] 4);rw [hwL]; refine Zb ?_ _; simpa using this
 have hf3 : wL.heap[w.heap.size + 1 + 1 + 1]? = some (.cells #[.pointer (some ⟨wb, 0, none⟩)] 175 (0, 0)) := by
  have := World.alloc_heap_new (((w.alloc (.cells #[.func (.func g) #[] lb] 144)).alloc (.cells #[.int .i64 0, .int .i64 0, .int .i64 0] 42)).alloc (.cells #[.bool false] 4)) (.cells #[.pointer (some ⟨wb, 0, none⟩)] 175);rw [hwL]; simpa using this
 rw [← hwL];clear hwL;have hkeep : ∀ W, w.grownBy W row → Below B w W := fun W hg => Z0 (Below.refl _ _) hg hB (fun r e => (hrow r e).1)
 refine wpIn_rangeFunc_ownH rfl (by omega) (gf := 236) (lb := #[.pointer (some ⟨w.heap.size + 1 + 1 + 1, 0, none⟩)]) rfl trivial (enters_of Tryz.func236 (by kernel_rfl) rfl)
  (Zmb 7 (by omega) (w.heap.size + 1 + 1 + 1) wb B p vp vm w h wL (hbL.mono hB) (by omega) (by omega) ((Za hf3).1 0)) belowK_t (belowK_b (by omega)) (Below.refl _ _) (fun _ => rfl)
  (FindI w wL row J q) (FindX w wL row q) (Zhh hJ (by omega)) (fun c => Zpn c (by omega))
  ⟨hJ 0 w wL h0 hbL, U6 (Zj hbL) row, fun _ _ _ => rfl, Nat.le_refl _, fun j y hj => by simp at hj⟩
  (fun x a' W => ∃ b6 b7, wL.heap.size ≤ b6 ∧ wL.heap.size ≤ b7 ∧ W.heap[b6]? = some (.cells #[.int .i64 x.1.1.1, .int .i64 x.1.1.2.1, .int .i64 x.1.1.2.2] 42 (0, 0)) ∧
   W.heap[b7]? = some (.cells #[.int .u8 x.1.2.1.op, .string ⟨x.1.2.1.dst.toArray⟩, .string ⟨x.1.2.1.a.toArray⟩, .string ⟨x.1.2.1.b.toArray⟩, .int .i64 x.1.2.1.n, .string ⟨x.1.2.1.fn.toArray⟩, x.1.2.2.1, x.1.2.2.2] 38 (0, 0)) ∧
   a' = { tmps := #[.pointer (some ⟨wb, 0, none⟩), .func (.func g) #[] lb, undef, .pointer (some ⟨w.heap.size, 0, none⟩), .pointer (some ⟨w.heap.size + 1, 0, none⟩), .pointer (some ⟨w.heap.size + 1 + 1, 0, none⟩), .pointer (some ⟨b6, 0, none⟩), .pointer (some ⟨b7, 0, none⟩), .pointer (some ⟨wb, 0, none⟩), .func (.func 236) #[] #[.pointer (some ⟨w.heap.size + 1 + 1 + 1, 0, none⟩)], ptA x.1.1, Ve x.1.2.1 x.1.2.2.1 x.1.2.2.2, undef, undef, undef, undef, undef, undef], defers := [] })
  (fun x a' _ X Y row' hs hg hr => by
   obtain ⟨b6, b7, h1, h2, h3, h4, h5⟩ := hs
   have hk : ∀ (k : Nat) (cs : Array Value) (t : TypeId), X.heap[k]? = some (Obj.cells cs t (0, 0)) → Y.heap[k]? = some (Obj.cells cs t (0, 0)) := fun k cs t hk => (hg.block k (Ze hk) (fun e => by
                                                                                                                                                                                              obtain ⟨_, o, ho, hc⟩ := hr k e.symm
                                                                                                                                                                                              rw [hk] at ho
                                                                                                                                                                                              cases ho
                                                                                                                                                                                              cases hc)).trans hk
   exact ⟨b6, b7, h1, h2, hk _ _ _ h3, hk _ _ _ h4, h5⟩)
  ?assign ?body ?done ?stop
 case assign =>
  rintro l pre ⟨⟨pt, z, va, vl⟩, hi, hm⟩ W K hI hK;have hi' : InsAt w B z va vl := hi;obtain ⟨A4, d4, q4, _, _, _, _⟩ := hi'.args.open_;obtain ⟨A5, d5, q5, _, _, _, _⟩ := hi'.labels.open_;subst q4;subst q5;have hIs := hI.sz;have hIown := Zhh (p := p) (w0 := w) (B := B) (row := row) (q := q) hJ (show w.heap.size ≤ wL.heap.size by omega);simp only [Zis, ptA, Ve];gi_wp2;have h6 := World.alloc_heap_new W (.cells #[.int .i64 pt.1, .int .i64 pt.2.1, .int .i64 pt.2.2] 42);have h7 := World.alloc_heap_new (W.alloc (.cells #[.int .i64 pt.1, .int .i64 pt.2.1, .int .i64 pt.2.2] 42)) (.cells #[.int .u8 z.op, .string ⟨z.dst.toArray⟩, .string ⟨z.a.toArray⟩, .string ⟨z.b.toArray⟩, .int .i64 z.n, .string ⟨z.fn.toArray⟩, .slice A4 z.args.length d4, .slice A5 z.labels.length d5] 38);rw [World.size_alloc] at h7;exact hK _ _ (((KeepsOthers.alloc _ _).trans (KeepsOthers.alloc _ _)).from _) (((Below.refl B W).alloc (by omega) _).alloc (by simp; omega) _)
   (hIown pre W _ none hI (Zd (World.grownBy_alloc W _ none) _) (fun r e => by cases e)) ⟨W.heap.size, W.heap.size + 1, by omega, by omega, Zb h6 _, h7, rfl⟩
 case body =>
  rintro l pre ⟨⟨pt, z, va, vl⟩, hi, hm⟩ a' W hl hrl hI ⟨b6, b7, h6, h7, hc6, hc7, rfl⟩ hlt;have hi' : InsAt w B z va vl := hi;have hcall := hp pre.length pt z va vl W hm hI.st hI.gr (hi'.below (hkeep W hI.gr) (Nat.le_refl _)) hlt;have hsz := hI.sz;have hf0' : W.heap[w.heap.size]? = _ := (hI.sm _ (Nat.le_refl _) (by omega)).trans hf0;have hf1' : W.heap[w.heap.size + 1]? = _ := (hI.sm _ (by omega) (by omega)).trans hf1;have hf2' : W.heap[w.heap.size + 1 + 1]? = _ := (hI.sm _ (by omega) (by omega)).trans hf2;obtain ⟨k1, k2⟩ := Za hf0';obtain ⟨k3, k4⟩ := Za hc6;obtain ⟨k5, k6⟩ := Za hc7;have hn1 : 1 ≤ 8 - 1 - 1 := by omega
  have hafter : ∀ W', W.grownBy W' row → (∀ k, w.heap.size ≤ k → k < W.heap.size → W'.heap[k]? = W.heap[k]?) ∧ KeepsOthers W W' := fun W' hg' =>
   ⟨fun k h1 h2 => hg'.block k h2 (fun e => by have := (hrow k e.symm).2; omega), Yv hg' (hrowc _ _ hI.st)⟩
  have hl6 := Ze hc6;have HI := hid hI;have Hafter := hid hafter;have Hc6 := hid hc6;have Hf1 := hid hf1';have Hf2 := hid hf2';clear hI hafter hc6 hc7 hf0' hf1' hf2' hf0 hf1 hf2 hf3 hbL hkeep hp hJ hrowc k2 k4 k6
  cases hq : q pre.length pt z with
  | true =>
   rw [hq] at hcall;gi_wp2_with (refine ⟨trivial, ?_⟩; refine (CallsIn.inRound l (callsIn_wide.2 hcall)).mono ?_; rintro e W' ⟨rfl, hj', hg'⟩; obtain ⟨hk9, hko⟩ := Hafter.out W' hg'; obtain ⟨k7, k8⟩ := Za ((hk9 b6 (by omega) (by omega)).trans Hc6.out); obtain ⟨k9, k10⟩ := Za ((hk9 (w.heap.size + 1) (by omega) (by omega)).trans Hf1.out); obtain ⟨k11, k12⟩ := Za ((hk9 (w.heap.size + 1 + 1) (by omega) (by omega)).trans Hf2.out));have hq' : q pre.length pt z = true := hq;have hI := HI.out;have hb1 := (hk9 (w.heap.size + 1) (by omega) (by omega)).trans Hf1.out;have hb2 := (hk9 (w.heap.size + 1 + 1) (by omega) (by omega)).trans Hf2.out;refine ⟨(hko.trans (Kh _ _ _ _ _ _ _ _ _)).from _, ⟨rfl, ⟨pre, _, rfl, hI.no, hq', Yn (Zlk hb1 _ _ _) (by simp) _⟩, ?_, ?_⟩⟩
   ·exact Zs (Yn (Yn (Yn hb2 (by simp) _) (by simp) _) (by simp) _) 0 _
   ·exact Zh (Zh (Zh (Zh (Zc hI.gr hg') (by simp) _) (by simp) _) (by simp) _) (by simp; omega) _
  | false =>
   rw [hq] at hcall;gi_wp2_with (refine ⟨trivial, ?_⟩; refine (CallsIn.inRound l (callsIn_wide.2 hcall)).mono ?_; rintro e W' ⟨rfl, hj', hg'⟩);have hq' : q pre.length pt z = false := hq;have hI := HI.out;obtain ⟨hk9, hko⟩ := Hafter.out W' hg';refine ⟨hko.from _, Z0 (Below.refl _ _) hg' (by omega) (fun r e => (hrow r e).1), ⟨?_, Zc hI.gr hg', fun k h1 h2 => (hk9 k h1 (by omega)).trans (hI.sm k h1 h2), Nat.le_trans hI.sz hg'.size, ?_⟩⟩
   ·rw [List.length_append]; exact hj' trivial
   ·intro j y hj
    by_cases hjl : j < pre.length
    ·rw [List.getElem?_append_left hjl] at hj;exact hI.no j y hj
    ·rw [List.getElem?_append_right (by omega)] at hj;have hj0 : j = pre.length := by
      rcases Nat.lt_or_ge (j - pre.length) 1 with h1 | h1
      ·omega
      ·rw [List.getElem?_eq_none (by simpa using h1)] at hj; cases hj
     subst hj0;simp at hj;subst hj;exact hq'
 case done =>
  rintro D xs W hD hS hI hK;have hsz := hI.sz;have hb1 := (hI.sm (w.heap.size + 1) (by omega) (by omega)).trans hf1;have hb2 := (hI.sm (w.heap.size + 1 + 1) (by omega) (by omega)).trans hf2;obtain ⟨k9, k10⟩ := Za hb1;obtain ⟨k11, k12⟩ := Za hb2;have HI := hid hI;have Hb1 := hid hb1;have Hb2 := hid hb2;clear hI hf0 hf1 hf2 hf3 hbL hkeep hp hJ hrowc h hb1 hb2;gi_wp2;have hK' : ((((W.setCell ⟨w.heap.size + 1, 0, none⟩ (.int .i64 0)).setCell ⟨w.heap.size + 1, 1, none⟩ (.int .i64 0)).setCell ⟨w.heap.size + 1, 2, none⟩ (.int .i64 0)).setCell ⟨w.heap.size + 1 + 1, 0, none⟩ (.bool false)).heap[D]? = some (.deferred (some [])) :=
   Yn (Yn (Yn (Yn hK (by simp; omega) _) (by simp; omega) _) (by simp; omega) _) (by simp; omega) _
  refine ⟨by simp, .inl ⟨_, _, rfl, run_takeDeferred hK', ?_⟩⟩;have hc1 := (World.putObj_heap_other (o := .deferred none) (show w.heap.size + 1 ≠ D by omega)).trans (Yn (Zlk Hb1.out (.int .i64 0) (.int .i64 0) (.int .i64 0)) (show w.heap.size + 1 ≠ (⟨w.heap.size + 1 + 1, 0, none⟩ : Addr).block by simp) (.bool false));have hc2 := (World.putObj_heap_other (o := .deferred none) (show w.heap.size + 1 + 1 ≠ D by omega)).trans (Zs (Yn (Yn (Yn Hb2.out (show w.heap.size + 1 + 1 ≠ (⟨w.heap.size + 1, 0, none⟩ : Addr).block by simp) (.int .i64 0)) (show w.heap.size + 1 + 1 ≠ (⟨w.heap.size + 1, 1, none⟩ : Addr).block by simp) (.int .i64 0)) (show w.heap.size + 1 + 1 ≠ (⟨w.heap.size + 1, 2, none⟩ : Addr).block by simp) (.int .i64 0)) 0 (.bool false));obtain ⟨j1, _⟩ := Za hc1;obtain ⟨j2, _⟩ := Za hc2;refine ⟨ptV none, ?_, by rw [Zmi hS HI.out.no], ?_⟩
  ·simp [results, Tryz.f168, go_sem, ptV, ptC, j1, j2]
  ·exact Yo (Zh (Zh (Zh (Zh HI.out.gr (by simp) _) (by simp) _) (by simp) _) (by simp; omega) _) (grownBy_putObj' _ D _) (fun r e => by cases e; omega)
 case stop =>
  rintro D c pre W hD hS hX hK;obtain ⟨rfl, ⟨ys, x, rfl, h1, h2, hr1⟩, hr2, hgr⟩ := hX;have Hr1 := hid hr1;have Hr2 := hid hr2;clear hf0 hf1 hf2 hf3 hbL hkeep hp hJ hrowc h hr1 hr2;gi_wp2;refine ⟨by simp, .inl ⟨_, _, rfl, run_takeDeferred hK, ?_⟩⟩;have hc1 := (World.putObj_heap_other (o := .deferred none) (show w.heap.size + 1 ≠ D by omega)).trans Hr1.out;have hc2 := (World.putObj_heap_other (o := .deferred none) (show w.heap.size + 1 + 1 ≠ D by omega)).trans Hr2.out;obtain ⟨j1, _⟩ := Za hc1;obtain ⟨j2, _⟩ := Za hc2;refine ⟨ptV (some x.1.1), ?_, by rw [Zmj hS h1 h2], ?_⟩
  ·simp [results, Tryz.f168, go_sem, ptV, ptC, j1, j2]
  ·exact Yo hgr (grownBy_putObj' _ D _) (fun r e => by cases e; omega)
end Go.Proofs.YtiheiaaifdjpeaaGreat
namespace Go.Proofs.YtiheiaaifdjpeaaGreat
open Lib(hid)
open Go.RowKit Go.Shelf
attribute [local go_sem] Oper.semAt_some
abbrev Bk3 (w0 : World) (B : Nat) (bs : List GBlk) : Type := { x : Nat × GBlk × Value // BlkAt w0 B x.2.1 x.2.2 ∧ bs[x.1]? = some x.2.1 }
def encK {w0 : World} {B : Nat} {bs : List GBlk} (x : Bk3 w0 B bs) : Array Value := #[.int .i64 x.1.1, .agg #[.string ⟨x.1.2.1.label.toArray⟩, x.1.2.2]]
def Vj (n k : Nat) : List Nat := (List.range k).map fun i => n - 1 - i
theorem Zcn (n k : Nat) : Vj n (k + 1) = Vj n k ++ [n - 1 - k] := by simp [Vj, List.range_succ]
theorem Zib (A : Option Addr) (n c : Nat) (w : World) :
  Calls Tryz.prog 129 #[.slice A n c] w fun e w' => e = .returned (.func (.func 182) #[] #[.pointer (some ⟨w.heap.size, 0, none⟩)]) ∧ w' = w.alloc (.cells #[.slice A n c] 56) := by
 go_enter Tryz.func129, Tryz.ntmps129;go_wp2;go_ret;exact ⟨rfl, rfl⟩
structure KpB (B cb : Nat) (W W' : World) : Prop where
 low : Below B W W'
 cb : W'.heap[cb]? = W.heap[cb]?
theorem Zok {B cb : Nat} {X Y Z : World} (h : KpB B cb X Y) (k : KpB B cb Y Z) : KpB B cb X Z := ⟨h.low.trans k.low, k.cb.trans h.cb⟩
theorem kpB_b {B cb : Nat} {w : World} (hn : B ≤ w.heap.size) (hc : cb < w.heap.size) (W : World) (l : Nat) (o o' : Obj) (hl : w.heap.size ≤ l) (h : W.heap[l]? = some o) (h1 : o.isCells = false) (h2 : o.isWalk = false) : KpB B cb W (W.putObj l o') :=
 ⟨belowK_b hn W l o o' hl h h1 h2, World.putObj_heap_other (by omega)⟩
theorem Zge (n : Nat) (hn : 1 ≤ n) (l cb B : Nat) (bs : List GBlk) (v : Value) (w0 : World) (h : BlocksAt w0 B v bs) (J Jx : List (Bk3 w0 B bs) → World → Prop) (hJa : ∀ s W o, J s W → J s (W.alloc o))
  (hY : ∀ pre x W, J pre W → pre.length < bs.length → YieldAt Fence.wide (n - 1) Tryz.prog l (encK x) W fun e W' =>
   (e = .returned (.bool true) ∧ J (pre ++ [x]) W' ∧ KpB B cb W W') ∨ (e = .returned (.bool false) ∧ Jx (pre ++ [x]) W'))
  (W : World) (hW : Below B w0 W) (hBW : B ≤ W.heap.size) (hc : W.cell? ⟨cb, 0, none⟩ = some v) (h0 : J [] W) :
  CallsIn Fence.wide n Tryz.prog 182 #[.func (.yield l) #[] #[], .pointer (some ⟨cb, 0, none⟩)] W fun e W' => (∃ v, e = .returned v) ∧
   ((∃ xs, xs.map (·.1.1) = Vj bs.length bs.length ∧ J xs W') ∨ (∃ pre, True ∧ Jx pre W')) := by
 obtain ⟨A, c, rfl, hm, hlc, hcm, hA⟩ := h.open_;have hJh := hid hJa;have hYh := hid hY;have hJs := hJa;have hYs := hY;clear h hJa hY hJs hYs;refine callsIn_of_wp Tryz.func182 rfl trivial ?_ rfl;simp only [Tryz.ntmps182, List.size_toArray, List.length_cons, List.length_nil, Nat.reduceAdd, Nat.reduceSub, Array.replicate_succ, Array.replicate_zero, List.push_toArray, List.append_toArray, List.nil_append, List.cons_append];have hlen0 : -1 ≤ (bs.length : Int) - 1 := by omega
 gi_wp2;gi_loopw [3] (fun s3 wr => ∃ j : Nat, j ≤ bs.length ∧ s3 = .int .i64 ((j : Int) - 1) ∧ Hid (Below B W wr ∧ B ≤ wr.heap.size ∧ wr.cell? ⟨cb, 0, none⟩ = some (.slice A bs.length c)) ∧ Hid (∃ xs, xs.map (·.1.1) = Vj bs.length (bs.length - j) ∧ J xs wr)) (fun s3 _ => (intOf s3 + 1).toNat)
 case atStart => exact ⟨bs.length, Nat.le_refl _, rfl, ⟨Below.refl _ _, hBW, hc⟩, [], by simp [Vj], h0⟩
 case round =>
  obtain ⟨j, hjl, rfl, hg, hX⟩ := hrel;have hb := hW.trans hg.out.1;have hcr := hg.out.2.2
  rcases j with _ | i
  ·have e0 : (((0 : Nat) : Int) - 1) = -1 := rfl;rw [e0];clear e0 hb hcr hc;gi_wp2;go_end0;obtain ⟨xs, h1, h2⟩ := hX.out;exact ⟨⟨_, rfl⟩, .inl ⟨xs, h1, h2⟩⟩
  ·have e0 : (((i + 1 : Nat) : Int) - 1) = i := by omega
   rw [e0];obtain ⟨x, b, off, hx, rfl, hbB, hr⟩ := hA.at_ (show i < bs.length by omega);obtain ⟨A3, d3, hf, m3, e1, e2⟩ := Yg hr;replace e1 := cur hb hbB e1;replace e2 := cur hb hbB e2;obtain ⟨xs, hxs, hJx⟩ := hX.out;obtain ⟨q, hq⟩ : ∃ q : Bk3 w0 B bs, q = ⟨(i, x, .slice A3 x.code.length d3), hf, hx⟩ := ⟨_, rfl⟩
   have hlen : xs.length < bs.length := by
    have := congrArg List.length hxs;simp [Vj] at this;omega
   obtain ⟨fn, tmps, assign, body, hy9, hR⟩ := hYh.out xs q wr hJx hlen;have he : encK q = #[.int .i64 i, .agg #[.string ⟨x.label.toArray⟩, .slice A3 x.code.length d3]] := by rw [hq]; rfl
   rw [he] at hy9
   have Hxs := hid (show (xs ++ [q]).map (·.1.1) = Vj bs.length (bs.length - i) by
                        rw [List.map_append, hxs, show bs.length - i = (bs.length - (i + 1)) + 1 by omega, Zcn, hq]
                        simp
                        omega)
   have hil : i < bs.length := by omega
   clear e0 hx hr hf hq he hxs hlen hb hc;gi_wp2;refine hR.mono ?_;rintro e W3 (⟨rfl, hJ3, hk3⟩ | ⟨rfl, hJx3⟩)
   ·gi_wp2;go_roundw
    case rel => exact ⟨i, by omega, by go_num, ⟨hg.out.1.trans hk3.low, by have := hk3.low.size; have := hg.out.2.1; omega, (World.cell?_of_block hk3.cb).trans hg.out.2.2⟩, _, Hxs.out, hJ3⟩
    case measure => simp [intOf]
   ·gi_wp2;refine bodyPost_ret (results_none rfl _ _ _) rfl ?_;exact ⟨⟨_, rfl⟩, .inr ⟨_, trivial, hJx3⟩⟩
theorem Zee (n : Nat) (hn : 1 ≤ n) (cb B : Nat) (bs : List GBlk) (v : Value) (w0 : World) (h : BlocksAt w0 B v bs) (w : World) (hw : Below B w0 w) (hcb : cb < w.heap.size) (hB : B ≤ w.heap.size) (hc : w.cell? ⟨cb, 0, none⟩ = some v) :
  SeqStopsK Fence.wide n Tryz.prog 182 #[.pointer (some ⟨cb, 0, none⟩)] (encK (w0 := w0) (B := B) (bs := bs)) (KpB B cb) (fun xs => xs.map (·.1.1) = Vj bs.length bs.length) (fun _ => True) bs.length w := fun l J Jx W hW hJ _ hY h0 =>
 Zge n hn l cb B bs v w0 h J Jx (fun s W' o hs => hJ s W' _ none hs (World.grownBy_alloc W' o none) (fun r e => by cases e)) hY W (hw.trans (hW.mono hB)) (Nat.le_trans hB hW.size) ((hW.cell (p := ⟨cb, 0, none⟩) hcb).trans hc) h0
end Go.Proofs.YtiheiaaifdjpeaaGreat

/- A known program, as law12_known builds it. No condition. -/
import Derived.Test.YtiheiaaifdjpeaaGreatDMet
import Derived.Test.YtiheiaaifdjpeaaGreatDSitN
set_option linter.unusedVariables false
set_option linter.unusedSimpArgs false
namespace Go.Proofs.YtiheiaaifdjpeaaGreat
open Go.RowKit Go.Shelf
theorem Kz {α : Type} {R : Rdr α} {sz : Nat} {w : World} {B b n : Nat} {l : List α} (hn : n = l.length) (hm : n ≤ 65536) (hb : b < B) (h : ∀ k x, l[k]? = some x → R w B b (k * sz) x) : SlAt R sz w B (.slice (some ⟨b, 0, none⟩) n n) l := by
 subst hn;exact ⟨_, _, rfl, Nat.le_refl _, by unfold maxLen; omega, fun k x hx => ⟨b, 0, rfl, hb, by rw [Nat.zero_add]; exact h k x hx⟩⟩
theorem Vv {α : Type} {P : Nat → α → Prop} : ∀ k x, ([] : List α)[k]? = some x → P k x := fun k x h => by simp at h
theorem Y1 {α : Type} {P : Nat → α → Prop} {a : α} {l : List α} (h : P 0 a) (t : ∀ k x, l[k]? = some x → P (k + 1) x) : ∀ k x, (a :: l)[k]? = some x → P k x := by
 intro k x hx
 cases k with
 | zero => simp only [List.getElem?_cons_zero, Option.some.injEq] at hx; exact hx ▸ h
 | succ k => exact t k x (by simpa using hx)
end Go.Proofs.YtiheiaaifdjpeaaGreat
namespace Go.Proofs.YtiheiaaifdjpeaaGreat
def atS (f : GFun) (s : Str) (i : Nat) : Bool := if (Yt f s).1 = 0 then decide ((Yt f s).2 < i) else (decide (s = nought) || decide ((Yt f s).1 < 0))
def Zcg (f : GFun) : Bool := f.blocks.length == 1 && f.blocks.all fun y => y.code.zipIdx.all fun q => !(q.1.op == 6) && !(q.1.labels.contains (Zhm f)) && (J9 q.1).all fun s => atS f s q.2
theorem atS_at {f : GFun} {s : Str} {i : Nat} (h : atS f s i = true) : atB f s 0 i = true := by
 unfold atS at h;unfold atB
 by_cases hd : (Yt f s).1 = 0
 ·rw [if_pos hd] at h;rw [if_pos (by simpa using hd)];exact h
 ·rw [if_neg hd] at h;rw [if_neg (by simpa using hd)];unfold Xr;simp only [Bool.or_eq_true, decide_eq_true_eq] at h
  rcases h with h | h
  ·simp [h]
  ·simp [h]
theorem Zgw {f : GFun} (h : Zcg f = true) : ∀ r ∈ Ym, Uh f r = none := by
 simp only [Zcg, Bool.and_eq_true, beq_iff_eq, List.all_eq_true] at h;obtain ⟨hl, ha⟩ := h;have key : ∀ b y, f.blocks[b]? = some y → ∀ i x, y.code[i]? = some x → b = 0 ∧ (x.op == 6) = false ∧ x.labels.contains (Zhm f) = false ∧ ∀ s ∈ J9 x, atS f s i = true := by
  intro b y hy i x hx;have hb := (List.getElem?_eq_some_iff.1 hy).1;have hm : (x, i) ∈ y.code.zipIdx := by
   rw [List.mem_zipIdx_iff_getElem?];exact hx
  have h1 := ha y (List.mem_of_getElem? hy) (x, i) hm;simp only [Bool.and_eq_true, Bool.not_eq_true', List.all_eq_true] at h1;exact ⟨by omega, h1.1.1, h1.1.2, h1.2⟩
 intro r hr;simp only [Ym, List.mem_cons, List.not_mem_nil, or_false] at hr
 rcases hr with rfl | rfl | rfl | rfl
 ·show V6 f (V7 f) = none;refine Ks fun b _ y hy => Kr fun i _ x hx => ?_
  obtain ⟨_, _, h3, _⟩ := key b y hy i x hx;unfold V7;rw [h3, Bool.and_false]
 ·show Xp f = none;unfold Xp;rw [Option.map_eq_none_iff, List.find?_eq_none];intro k hk;have hk0 : k = 0 := by rw [List.mem_range] at hk; omega
  subst hk0;have : Path (Z5 f.blocks) 0 0 := .refl;simp [Jl, this]
 ·show V6 f (Zcc f) = none;refine Ks fun b _ y hy => Kr fun i _ x hx => ?_
  obtain ⟨_, h2, _, _⟩ := key b y hy i x hx;unfold Zcc;rw [h2];rfl
 ·show V6 f (Vy f) = none;refine Ks fun b _ y hy => Kr fun i _ x hx => ?_
  obtain ⟨rfl, h2, _, h4⟩ := key b y hy i x hx;unfold Vy;rw [if_neg (by simpa using h2), List.any_eq_false];intro s hs;rw [atS_at (h4 s hs)];simp
theorem Zjh {p : GProg} (h0 : (Z9 p).1 = 0) (h1 : p.all Zcg = true) (hv : Qx p ≤ 65536) (hf : K4 p ≤ 65536) : Y9 p = (0, (0, 0, 0)) := by
 rw [Zdg h0 (fun r hr => Zhy fun j hj f hf => ?_), if_neg (by omega)];exact Zgw (List.all_eq_true.1 h1 f (List.mem_of_getElem? hf)) r hr
end Go.Proofs.YtiheiaaifdjpeaaGreat
namespace Go.Proofs.YtiheiaaifdjpeaaGreat
open Go.RowKit Go.Shelf
theorem Zoc {p : GProg} (h : NOk p) : CpOk p := by
 have hat : ∀ f ∈ p, ∃ i, p[i]? = some f := fun f hf => by
  obtain ⟨i, hi, e⟩ := List.mem_iff_getElem.1 hf;exact ⟨i, by rw [← e]; exact List.getElem?_eq_getElem hi⟩
 refine ⟨fun e => ?_, by have := h.funcs; omega, fun f hf => ?_, fun f hf => ?_, fun f hf y hy => ?_⟩
 ·have := h.funcs;rw [e] at this;simp at this
 ·obtain ⟨i, hi⟩ := hat f hf;have := h.params hi;omega
 ·obtain ⟨i, hi⟩ := hat f hf;have := h.blocks hi;exact ⟨fun e => by rw [e] at this; simp at this, by omega⟩
 ·obtain ⟨i, hi⟩ := hat f hf;obtain ⟨b, hb, e⟩ := List.mem_iff_getElem.1 hy;have hy' : f.blocks[b]? = some y := by rw [← e]; exact List.getElem?_eq_getElem hb
  have := h.code hi hy';exact ⟨(h.ends hi hy').1, by omega⟩
theorem Zsi {p : GProg} (h : (Y9 p).1 = 0) : NOk p := (Zja (by
                                                                       by_cases h0 : (Z9 p).1 = 0
                                                                       ·exact h0
                                                                       ·exact absurd (by rw [← U0 h0]; exact h) h0)).2
theorem Zor {w : World} {base : Nat} {v : Value} {l : List Int} (h : w.ownsRow base 3 1 v l.length (l.map Jd)) (hb : ∀ x ∈ l, -9223372036854775808 ≤ x ∧ x ≤ 9223372036854775807) : SlAt intR 1 w w.heap.size v l := by
 refine SlAt.of_ownN h rfl (fun g e => (h.lt g e).2) fun g k x e hx => ?_
 obtain ⟨A', c', rfl, _, _, h0, h1⟩ := Zr h
 cases A' with
 | none => simp [Value.ownBlock] at e
 | some a =>
  obtain ⟨ha, -, -⟩ := h1 a rfl;rw [ha] at h e;simp only [Value.ownBlock, Option.map_some, Option.some.injEq] at e;obtain ⟨_, _, _, _, h6⟩ := Y2 h;have hc := h6 k (Jd x) (by rw [List.getElem?_map, hx]; rfl);rw [← e];refine ⟨?_, hb x (List.mem_of_getElem? hx)⟩;rw [Nat.mul_one];exact hc
end Go.Proofs.YtiheiaaifdjpeaaGreat

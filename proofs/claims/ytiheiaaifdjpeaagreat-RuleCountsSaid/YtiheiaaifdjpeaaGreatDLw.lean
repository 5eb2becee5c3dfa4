/- What a program is in which sound.Check finds nothing wrong: plain lemmas. No condition. -/
import Derived.Test.YtiheiaaifdjpeaaGreatDSnp
set_option linter.unusedVariables false
set_option linter.unusedSimpArgs false
namespace Go.Proofs.YtiheiaaifdjpeaaGreat
theorem Zbn {p : GProg} (h0 : (Z9 p).1 = 0) : ((∀ r ∈ Ym, K8 p r = none) ∧ ((Y9 p = (21, (0, 0, 0)) ∧ (65536 < Qx p ∨ 65536 < K4 p)) ∨ (Y9 p = (0, (0, 0, 0)) ∧ ¬ (65536 < Qx p ∨ 65536 < K4 p)))) ∨ ∃ r pt, r ∈ Ym ∧ K8 p r = some pt ∧ Y9 p = (r, pt) := by
 unfold Y9;rw [if_neg (by simp [h0])]
 cases h : Zp [17, 18, 19, 20] fun _ r => (K8 p r).map fun pt => (r, pt) with
 | none =>
  left;refine ⟨fun r hr => ?_, ?_⟩
  ·obtain ⟨j, hj, e⟩ := List.mem_iff_getElem.1 hr;have := Zo h (show [17, 18, 19, 20][j]? = some r by rw [← e]; exact List.getElem?_eq_getElem hj);simpa using this
  ·by_cases hc : 65536 < Qx p ∨ 65536 < K4 p
   ·exact .inl ⟨by simp [hc], hc⟩
   ·exact .inr ⟨by simp only [if_neg hc], hc⟩
 | some q =>
  right;obtain ⟨j, r, h1, h2, _⟩ := Zdq h;simp only [Option.map_eq_some_iff] at h2;obtain ⟨pt, h3, rfl⟩ := h2;exact ⟨r, pt, List.mem_of_getElem? h1, h3, rfl⟩
def SOk (p : GProg) : Prop := ∀ r ∈ Ym, K8 p r = none
theorem Ztl {p : GProg} (h0 : (Z9 p).1 = 0) (h : (Y9 p).1 = 0) : SOk p := by
 rcases Zbn h0 with ⟨h1, _⟩ | ⟨r, pt, hr, _, e⟩
 ·exact h1
 ·rw [e] at h;simp only at h;subst h;exact absurd hr (by decide)
theorem U0 {p : GProg} (h : (Z9 p).1 ≠ 0) : Y9 p = Z9 p := by
 unfold Y9;rw [if_pos h]
theorem SOk.rule {p : GProg} (h : SOk p) {r : Nat} (hr : r ∈ Ym) {i : Nat} {f : GFun} (hf : p[i]? = some f) : Uh f r = none := by
 have := Zo (h r hr) hf;simpa using this
theorem J2 {f : GFun} {q : Nat → Nat → GIns → Bool} (h : V6 f q = none) {b k : Nat} {y : GBlk} {x : GIns} (hy : f.blocks[b]? = some y) (hx : y.code[k]? = some x) : q b k x = false := by
 have h1 := Zo (Zo h hy) hx;simpa using h1
theorem SOk.reach {p : GProg} (h : SOk p) {i : Nat} {f : GFun} (hf : p[i]? = some f) {k : Nat} (hk : k < f.blocks.length) : Path (Z5 f.blocks) 0 k := by
 have h1 : Xp f = none := h.rule (r := 18) (by decide) hf;unfold Xp at h1;rw [Option.map_eq_none_iff, List.find?_eq_none] at h1;have := h1 k (by simpa using hk);unfold Jl at this;simpa using this
theorem Zsf {bs : List GBlk} {k c : Nat} (h : c ∈ row (Z5 bs) k) : ∃ y, bs[k]? = some y ∧ (X3 y).op ≠ 14 ∧ ∃ s ∈ (X3 y).labels, (Ya bs s).getD 0 = c := by
 unfold row Z5 at h;rw [List.getElem?_map] at h
 cases hy : bs[k]? with
 | none => rw [hy] at h; simp at h
 | some y =>
  rw [hy] at h;simp only [Option.map_some, Option.getD_some] at h;have h2 := mem_formN.1 h;unfold Zak at h2
  split at h2
  ·cases h2
  ·rename_i hne
   obtain ⟨s, hs, e⟩ := List.mem_map.1 h2;exact ⟨y, rfl, hne, s, hs, e⟩
theorem SOk.back {p : GProg} (hn : NOk p) (h : SOk p) {i : Nat} {f : GFun} (hf : p[i]? = some f) {k c : Nat} (hc : c ∈ row (Z5 f.blocks) k) : c ≠ 0 := by
 obtain ⟨y, hy, hne, s, hs, e⟩ := Zsf hc;intro hc0;obtain ⟨hcd, _⟩ := hn.ends hf hy;have hx := Zai hcd;obtain ⟨j, hj⟩ := hn.labels hf hy hx s hs;rw [hj] at e;simp only [Option.getD_some] at e;have hlab := Zfe hj;rw [e, hc0] at hlab;have h1 : V6 f (V7 f) = none := h.rule (r := 17) (by decide) hf;have h2 := J2 h1 hy hx;have h6 : ((X3 y).op == 6) = false := by
  have := (hn.fok hf).of.op y (List.mem_of_getElem? hy);rw [beq_eq_false_iff_ne];omega
 unfold V7 Zhm at h2;rw [h6, hlab] at h2;simp [hs] at h2
structure DI (g : Gph) (out : List Bool) (nx : List Nat) : Prop where
 len : out.length = g.length
 lt : ∀ x ∈ nx, x < g.length
 cl : ∀ k, out[k]? = some true → ∀ c ∈ row g k, out[c]? = some true ∨ c ∈ nx
 st : out[0]? = some true ∨ 0 ∈ nx
theorem DI.start {g : Gph} (h : 0 < g.length) : DI g (List.replicate g.length false) [0] where
 len := by simp
 lt := fun x hx => by simp at hx; subst hx; exact h
 cl := fun k hk => by rw [List.getElem?_replicate] at hk; split at hk <;> simp at hk
 st := .inr (by simp)
theorem DI.skip {g : Gph} {out : List Bool} {nx : List Nat} {i : Nat} (h : DI g out (nx ++ [i])) (hi : out[i]? = some true) : DI g out nx where
 len := h.len
 lt := fun x hx => h.lt x (List.mem_append_left _ hx)
 cl := fun k hk c hc => by
  rcases h.cl k hk c hc with h1 | h1
  ·exact .inl h1
  ·rcases List.mem_append.1 h1 with h1 | h1
   ·exact .inr h1
   ·rw [List.mem_singleton] at h1;subst h1;exact .inl hi
 st := by
  rcases h.st with h1 | h1
  ·exact .inl h1
  ·rcases List.mem_append.1 h1 with h1 | h1
   ·exact .inr h1
   ·rw [List.mem_singleton] at h1;rw [h1];exact .inl hi
theorem DI.take {g : Gph} (hok : GOk g) {out : List Bool} {nx : List Nat} {i : Nat} (h : DI g out (nx ++ [i])) : DI g (out.set i true) (nx ++ row g i) := by
 have hil : i < out.length := by rw [h.len]; exact h.lt i (by simp)
 have up : ∀ c, out[c]? = some true ∨ c ∈ nx ++ [i] → (out.set i true)[c]? = some true ∨ c ∈ nx ++ row g i := by
  intro c hc
  by_cases e : i = c
  ·subst e;exact .inl (by simp [hil])
  ·rcases hc with hc | hc
   ·exact .inl (by rw [List.getElem?_set_ne e]; exact hc)
   ·rcases List.mem_append.1 hc with hc | hc
    ·exact .inr (List.mem_append_left _ hc)
    ·rw [List.mem_singleton] at hc;exact absurd hc.symm e
 refine ⟨by simp [h.len], fun x hx => ?_, fun k hk c hc => ?_, up 0 h.st⟩
 ·rcases List.mem_append.1 hx with hx | hx
  ·exact h.lt x (List.mem_append_left _ hx)
  ·unfold row at hx
   cases hr : g[i]? with
   | none => rw [hr] at hx; simp at hx
   | some r =>
    rw [hr] at hx;exact hok.lt r (List.mem_of_getElem? hr) x hx
 ·by_cases e : i = k
  ·subst e;exact .inr (List.mem_append_right _ hc)
  ·rw [List.getElem?_set_ne e] at hk;exact up c (h.cl k hk c hc)
theorem DI.done {g : Gph} {out : List Bool} (h : DI g out []) {k : Nat} (hp : Path g 0 k) : out[k]? = some true := by
 induction hp with
 | refl => exact h.st.resolve_right (by simp)
 | step _ hc ih => exact (h.cl _ ih _ hc).resolve_right (by simp)
end Go.Proofs.YtiheiaaifdjpeaaGreat

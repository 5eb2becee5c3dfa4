/- Plain laws of RuleCounts: how many relations of each kind. Condition: the program is well formed. -/
import Derived.Test.YtiheiaaifdjpeaaGreatDRlc
set_option linter.unusedVariables false
set_option linter.unusedSimpArgs false
namespace Go.Proofs.YtiheiaaifdjpeaaGreat
def Ztr (R : List GRel) : Array Value := #[.int .i64 (Xm 0 R : Nat), .int .i64 (Xm 1 R : Nat), .int .i64 (Xm 2 R : Nat), .int .i64 (Xm 3 R : Nat), .int .i64 (Xm 4 R : Nat), .int .i64 (Xm 5 R : Nat), .int .i64 (Xm 6 R : Nat)]
theorem Zug (k : Nat) (R : List GRel) (r : GRel) : Xm k (R ++ [r]) = Xm k R + (if r.kind = k then 1 else 0) := by
 rw [Jb]
 congr 1
 by_cases e : r.kind = k <;> simp [Xm, e]
theorem Ztq {R : List GRel} {r : GRel} {k : Nat} (hk : r.kind = k) (h6 : k ≤ 6) {v : Int} (hv : v = (Xm k R : Int) + 1) : (Ztr R).setIfInBounds k (.int .i64 v) = Ztr (R ++ [r]) := by
 subst hv;have e : ∀ j, Xm j (R ++ [r]) = Xm j R + (if k = j then 1 else 0) := fun j => by rw [Zug, hk]
 unfold Ztr;simp only [e]
 match k, h6 with
 | 0, _ => simp
 | 1, _ => simp
 | 2, _ => simp
 | 3, _ => simp
 | 4, _ => simp
 | 5, _ => simp
 | 6, _ => simp
 | n + 7, h => omega
def Zts (o : Nat) : Nat := if o = 5 then 2 else if o = 7 then 5 else if o = 8 then 3 else if o = 9 then 4 else if o = 11 then 6 else 1
def Ztp (z : GIns) : Bool := if z.op = 9 then isV z.a && isV z.b else if z.op = 1 ∨ z.op = 2 ∨ z.op = 4 then true else isV z.a
theorem Ztu {r : GRel} {l : List Int} {b : Bool} (h1 : b = true → ∀ x ∈ l, 0 ≤ x) (h2 : b = false → ∃ x ∈ l, x < 0) : V5 r l = if b = true then [r] else [] := by
 cases b with
 | true => rw [if_pos rfl]; exact Zsy (h1 rfl)
 | false =>
  obtain ⟨x, hx, h⟩ := h2 rfl;rw [if_neg (by simp)];exact Ztt hx h
theorem ins_one {p : GProg} (h : NOk p) (nd : Nat) {q : GPt × GIns} (hq : q ∈ pts p) (ho : q.2.op = 1 ∨ q.2.op = 2 ∨ q.2.op = 4 ∨ q.2.op = 5 ∨ q.2.op = 7 ∨ q.2.op = 8 ∨ q.2.op = 9 ∨ q.2.op = 11) :
  ∃ r : GRel, r.kind = Zts q.2.op ∧ Y7 p nd q = if Ztp q.2 = true then [r] else [] := by
 obtain ⟨f, y, hf, hy, hx⟩ := Xn (show (q.1, q.2) ∈ pts p from hq);have hd := fun ho => (Zof h hf hy hx).resolve_right (fun e => h.dst_ne hf hy hx ho e.1)
 have ha := Ztv h hf hy hx (s := q.2.a) (by simp);have hb := Ztv h hf hy hx (s := q.2.b) (by simp);have one : ∀ (r : GRel), Ztp q.2 = isV q.2.a → V5 r [vN p q.1.1 q.2.a] = if Ztp q.2 = true then [r] else [] := fun r hc => by
  rw [hc];refine Ztu (fun e x hx => ?_) (fun e => ⟨vN p q.1.1 q.2.a, by simp, ?_⟩)
  ·rw [List.mem_singleton] at hx;rw [hx]
   rcases ha with ha | ha
   ·exact ha.2.1
   ·rw [ha.1] at e; cases e
  ·rcases ha with ha | ha
   ·rw [ha.1] at e; cases e
   ·rw [ha.2]; omega
 rcases ho with ho | ho | ho | ho | ho | ho | ho | ho
 ·exact ⟨⟨1, vN p q.1.1 q.2.dst, ((J8 p q.1).1 : Nat), 0⟩, by simp [Zts, ho], by simp [Y7, ho, Ztp, V5]⟩
 ·exact ⟨⟨1, vN p q.1.1 q.2.dst, ((J8 p q.1).1 : Nat), 0⟩, by simp [Zts, ho], by simp [Y7, ho, Ztp, V5]⟩
 ·exact ⟨⟨1, vN p q.1.1 q.2.dst, (fobj p q.2.fn : Nat), 0⟩, by simp [Zts, ho], by simp [Y7, ho, Ztp, V5]⟩
 ·refine ⟨⟨2, vN p q.1.1 q.2.dst, vN p q.1.1 q.2.a, 0⟩, by simp [Zts, ho], ?_⟩;have hc : Ztp q.2 = isV q.2.a := by simp [Ztp, ho]
  have e : Y7 p nd q = Xd (vN p q.1.1 q.2.dst) (vN p q.1.1 q.2.a) := by simp [Y7, ho]
  rw [e, hc];unfold Xd;refine Ztu (fun e x hx => ?_) (fun e => ⟨vN p q.1.1 q.2.a, by simp, ?_⟩)
  ·simp only [List.mem_cons, List.not_mem_nil, or_false] at hx
   rcases hx with rfl | rfl
   ·exact (hd (by omega)).2.1
   ·rcases ha with ha | ha
    ·exact ha.2.1
    ·rw [ha.1] at e; cases e
  ·rcases ha with ha | ha
   ·rw [ha.1] at e; cases e
   ·rw [ha.2]; omega
 ·exact ⟨⟨5, vN p q.1.1 q.2.dst, vN p q.1.1 q.2.a, q.2.n⟩, by simp [Zts, ho], by rw [← one _ (by simp [Ztp, ho])]; simp [Y7, ho]⟩
 ·exact ⟨⟨3, vN p q.1.1 q.2.dst, vN p q.1.1 q.2.a, 0⟩, by simp [Zts, ho], by rw [← one _ (by simp [Ztp, ho])]; simp [Y7, ho]⟩
 ·refine ⟨⟨4, vN p q.1.1 q.2.b, vN p q.1.1 q.2.a, 0⟩, by simp [Zts, ho], ?_⟩;have hc : Ztp q.2 = (isV q.2.a && isV q.2.b) := by simp [Ztp, ho]
  have e : Y7 p nd q = V5 ⟨4, vN p q.1.1 q.2.b, vN p q.1.1 q.2.a, 0⟩ [vN p q.1.1 q.2.a, vN p q.1.1 q.2.b] := by simp [Y7, ho]
  rw [e, hc];refine Ztu (fun e x hx => ?_) (fun e => ?_)
  ·simp only [Bool.and_eq_true] at e;simp only [List.mem_cons, List.not_mem_nil, or_false] at hx
   rcases hx with rfl | rfl
   ·rcases ha with ha | ha
    ·exact ha.2.1
    ·rw [ha.1] at e; cases e.1
   ·rcases hb with hb | hb
    ·exact hb.2.1
    ·rw [hb.1] at e; cases e.2
  ·rcases ha with ha | ha
   ·rcases hb with hb | hb
    ·rw [ha.1, hb.1] at e; cases e
    ·exact ⟨vN p q.1.1 q.2.b, by simp, by rw [hb.2]; omega⟩
   ·exact ⟨vN p q.1.1 q.2.a, by simp, by rw [ha.2]; omega⟩
 ·exact ⟨⟨6, vN p q.1.1 q.2.a, 0, nd⟩, by simp [Zts, ho], by rw [← one _ (by simp [Ztp, ho])]; simp [Y7, ho]⟩
theorem Zua {p : GProg} (h : NOk p) {i b k : Nat} {f : GFun} {y : GBlk} {x : GIns} (hf : p[i]? = some f) (hy : f.blocks[b]? = some y) (hx : y.code[k]? = some x) (ho : x.op = 6 ∨ x.op = 10) {s : Str} (hs : s ∈ x.args) : s ≠ [] := by
 rintro rfl;have h1 := h.wname hf hy hx;have hc : x.args.contains [] = true := List.contains_iff_mem.2 hs;unfold Yi at h1
 rcases ho with ho | ho <;> rw [ho] at h1 <;> simp [Ye, Yw] at h1 <;> exact absurd hs (by simp only [h1, not_false_eq_true])
theorem Ztx {p : GProg} (h : NOk p) {i b k : Nat} {f : GFun} {y : GBlk} {x : GIns} (hf : p[i]? = some f) (hy : f.blocks[b]? = some y) (hx : y.code[k]? = some x) (ho : x.op = 6 ∨ x.op = 10) {s : Str} (hs : s ∈ x.args) {a : Int} (ha : 0 ≤ a) :
  Xd a (vN p i s) = if (s == nought) = true then [] else [⟨2, a, vN p i s, 0⟩] := by
 have hne := Zua h hf hy hx ho hs
 cases hn : s == nought with
 | true =>
  rw [if_pos rfl];have : vN p i s = -1 := Ztw h i (by simp [isV, hn]);rw [this];exact Ztt (x := -1) (by simp) (by omega)
 | false =>
  rw [if_neg (by simp)];have hv : isV s = true := by
   cases hs' : s with
   | nil => exact absurd hs' hne
   | cons c l => rw [hs'] at hn; simp only [isV, List.isEmpty_cons, Bool.not_false, Bool.true_and, hn]
  rcases Ztv h hf hy hx (s := s) (by simp [hs]) with h1 | h1
  ·exact Zsy (fun z hz => by
                   simp only [List.mem_cons, List.not_mem_nil, or_false] at hz
                   rcases hz with rfl | rfl
                   ·exact ha
                   ·exact h1.2.1)
  ·rw [hv] at h1; cases h1.1
theorem Zty {R : List GRel} {k : Nat} (h : k ≤ 6) : (Ztr R)[k]? = some (.int .i64 (Xm k R : Nat)) := by
 match k, h with
 | 0, _ => rfl
 | 1, _ => rfl
 | 2, _ => rfl
 | 3, _ => rfl
 | 4, _ => rfl
 | 5, _ => rfl
 | 6, _ => rfl
 | n + 7, h => omega
theorem Zuf (k : Nat) (r : GRel) (S : List GRel) : Xm k (r :: S) = (if r.kind = k then 1 else 0) + Xm k S := by
 have := Jb k [r] S;rw [List.singleton_append] at this;rw [this]
 congr 1
 by_cases e : r.kind = k <;> simp [Xm, e]
theorem Zuk {S : List GRel} {r : GRel} (h6 : r.kind ≤ 6) {v : Int} (hv : v = (Xm r.kind (r :: S) : Int) - 1) : (Ztr (r :: S)).setIfInBounds r.kind (.int .i64 v) = Ztr S := by
 subst hv;obtain ⟨k, hk⟩ : ∃ k, k = r.kind := ⟨_, rfl⟩
 have e : ∀ j, Xm j (r :: S) = (if k = j then 1 else 0) + Xm j S := fun j => by rw [Zuf, hk]
 rw [← hk] at h6 ⊢;unfold Ztr;simp only [e]
 match k, h6 with
 | 0, _ => simp; omega
 | 1, _ => simp; omega
 | 2, _ => simp; omega
 | 3, _ => simp; omega
 | 4, _ => simp; omega
 | 5, _ => simp; omega
 | 6, _ => simp; omega
 | n + 7, h => omega
end Go.Proofs.YtiheiaaifdjpeaaGreat

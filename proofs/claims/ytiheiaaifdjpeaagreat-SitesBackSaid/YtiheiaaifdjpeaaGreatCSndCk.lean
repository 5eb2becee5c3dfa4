/- The contract of sound.Check: the first rule that is broken, and where. Condition: the program lies in memory. -/
import Derived.Test.YtiheiaaifdjpeaaGreatCSndRu
import Derived.Test.YtiheiaaifdjpeaaGreatCSndN
set_option linter.unusedVariables false
set_option linter.unusedSimpArgs false
set_option linter.unusedSectionVars false
namespace Go.Proofs.YtiheiaaifdjpeaaGreat
open Go.RowKit Go.Shelf
attribute [local go_sem] Oper.semAt_some
def encPt (x : Nat) : Value := .pointer (some ⟨x, 0, none⟩)
def Qv (L : Nat) (v : Value) : Nat → Prop := fun k => k = L ∨ v.ownBlock = some k
structure CkI (w : World) (p : GProg) (R L k : Nat) (wr : World) : Prop where
 low : Below w.heap.size w wr
 res : wr.heap[R]? = some (.cells #[.int .u8 0, .int .i64 0, .int .i64 0, .int .i64 0] 87 (0, 0))
 row : ∃ (v : Value) (ps : List Nat), wr.heap[L]? = some (.cells #[v] 124 (0, 0)) ∧ wr.ownsRow (L + 1) 125 1 v k (ps.map encPt) ∧ ps.length = k ∧ ∀ (i x : Nat) (f : GFun), ps[i]? = some x → p[i]? = some f → BodyF (Qv L v) wr x f
 l1 : w.heap.size ≤ R
 l2 : R < L
theorem CkI.lt {w : World} {p : GProg} {R L k : Nat} {wr : World} (h : CkI w p R L k wr) : L < wr.heap.size := by
 obtain ⟨v, ps, h1, _⟩ := h.row
 exact seen_lt h1
theorem CkI.grow {w : World} {p : GProg} {R L k : Nat} {wr wr' : World} (h : CkI w p R L k wr) (hg : wr.grownBy wr' none) : CkI w p R L k wr' where
 low := grown_below h.low hg h.low.size (fun r e => by cases e)
 res := (hg.block _ (seen_lt h.res) (by simp)).trans h.res
 row := by
  obtain ⟨v, ps, h1, h2, h3, h4⟩ := h.row
  exact ⟨v, ps, (hg.block _ (seen_lt h1) (by simp)).trans h1, h2.kept hg (by cases v.ownBlock <;> simp), h3, fun i x f hx hf w'' hw'' =>
   h4 i x f hx hf w'' ((Agr.grown hg (fun r e => by cases e)).trans hw'' (fun _ _ e => e))⟩
 l1 := h.l1
 l2 := h.l2
theorem CkI.push {w : World} {p : GProg} {R L k : Nat} {wr wa w2 : World} (h : CkI w p R L k wr) {v' : Value} {ps : List Nat} (h1 : wr.heap[L]? = some (.cells #[v'] 124 (0, 0))) (h2 : wr.ownsRow (L + 1) 125 1 v' k (ps.map encPt)) (h3 : ps.length = k)
  (h4 : ∀ (i x : Nat) (f : GFun), ps[i]? = some x → p[i]? = some f → BodyF (Qv L v') wr x f) (hg1 : wr.grownBy wa none) {b : Nat} {f : GFun} (hf : p[k]? = some f) (hb : BodyF (Qv L v') wa b f)
  (hg2 : wa.grownBy w2 v'.ownBlock) {G cap : Nat} (ho : w2.ownsRow (L + 1) 125 1 (.slice (some ⟨G, 0, none⟩) (k + 1) cap) (k + 1) (ps.map encPt ++ [encPt b])) (hor : v'.ownBlock = some G ∨ wa.heap.size ≤ G) :
  CkI w p R L (k + 1) (w2.setCell ⟨L, 0, none⟩ (.slice (some ⟨G, 0, none⟩) (k + 1) cap)) := by
 have hl := h.lt
 have hown := h2.lt
 have hl1 := h.l1
 have hl2 := h.l2
 have hs1 := hg1.size
 have hs2 := hg2.size
 have hLo : v'.ownBlock ≠ some L := fun e => by have := (hown L e).1; omega
 have hRo : v'.ownBlock ≠ some R := fun e => by have := (hown R e).1; omega
 have hset : (w2.setCell ⟨L, 0, none⟩ (.slice (some ⟨G, 0, none⟩) (k + 1) cap)).heap.size = w2.heap.size := by simp [World.setCell]
 have hblk2 : w2.heap[L]? = some (.cells #[v'] 124 (0, 0)) := (hg2.block L (by omega) (fun e => hLo e.symm)).trans ((hg1.block L hl (by simp)).trans h1)
 have hL3 : (w2.setCell ⟨L, 0, none⟩ (.slice (some ⟨G, 0, none⟩) (k + 1) cap)).heap[L]? = some (.cells #[.slice (some ⟨G, 0, none⟩) (k + 1) cap] 124 (0, 0)) := set_blk hblk2 0 _
 have hag : Agr (Qv L v') wa (w2.setCell ⟨L, 0, none⟩ (.slice (some ⟨G, 0, none⟩) (k + 1) cap)) :=
  ⟨by rw [hset]; exact hs2, fun i hi hn => (Below.heap_setCell w2 _ _ i (fun e => hn (.inl e))).trans (hg2.block i hi (fun e => hn (.inr e.symm)))⟩
 have hnew : ∀ {x : Nat} {f : GFun}, BodyF (Qv L v') wa x f → BodyF (Qv L (.slice (some ⟨G, 0, none⟩) (k + 1) cap)) (w2.setCell ⟨L, 0, none⟩ (.slice (some ⟨G, 0, none⟩) (k + 1) cap)) x f := fun hx w'' hw'' =>
  hx w'' (hag.trans hw'' (fun i hi e => by
   rcases e with e | e
   ·exact .inl e
   ·simp [Value.ownBlock] at e
    subst e
    rcases hor with e2 | e2
    ·exact .inr e2
    ·omega))
 refine ⟨?_, ?_, ⟨.slice (some ⟨G, 0, none⟩) (k + 1) cap, ps ++ [b], hL3, ?_, by simp [h3], fun i x g hx hg => ?_⟩, hl1, hl2⟩
 ·exact (grown_below (grown_below h.low hg1 h.low.size (fun r e => by cases e)) hg2 (by have := h.low.size; omega) (fun r e => by have := (hown r e).1; omega)).setCell (by show w.heap.size ≤ L; omega) _
 ·exact (Below.heap_setCell w2 _ _ R (by show R ≠ L; omega)).trans ((hg2.block R (by have := seen_lt h.res; omega) (fun e => hRo e.symm)).trans ((hg1.block R (seen_lt h.res) (by simp)).trans h.res))
 ·rw [List.map_append]
  refine ho.kept (grown_setRow (World.grownBy.refl w2 (some L)) rfl _) (.inr fun e => ?_)
  simp [Value.ownBlock] at e
  have := (ho.lt G rfl).1
  omega
 ·by_cases hi : i < ps.length
  ·rw [List.getElem?_append_left hi] at hx
   exact hnew (fun w'' hw'' => h4 i x g hx hg w'' ((Agr.grown hg1 (fun r e => by cases e)).trans hw'' (fun _ _ e => e)))
  ·rw [List.getElem?_append_right (by omega)] at hx
   have hi0 : i = ps.length := by
    rcases Nat.lt_or_ge (i - ps.length) 1 with h9 | h9
    ·omega
    ·rw [List.getElem?_eq_none (by simpa using h9)] at hx; cases hx
   subst hi0
   simp at hx
   subst hx
   rw [h3, hf] at hg
   cases hg
   exact hnew hb
theorem run_push1 {P : Program} {w : World} (t ty : TypeId) (base : Nat) (e : TypeId) (z : Value) (bytes : Nat) (ht : P.underlying t = some (.slice e)) (hinfo : (P.info? e).map (fun i => (i.zero, i.size, i.bytes)) = some (some z, 1, bytes)) (hzs : z.cells.size = 1)
  (v : Value) (xs : List Value) (n : Nat) (hown : w.ownsRow base e 1 v n xs)
  (b : Nat) (u : Value) (hu : u.oneCell' = true) (hc : w.cell? ⟨b, 0, none⟩ = some u)
  (h63 : n + 1 ≤ maxLen) (hbytes : (n + 1) * bytes ≤ 140737488355328) (hbase : base ≤ w.heap.size) :
  ∃ g c w', (Builtin.append_ #[t, t] ty #[v, .slice (some ⟨b, 0, none⟩) 1 1]).run P w = .ok (.slice (some ⟨g, 0, none⟩) (n + 1) c) w' ∧ w'.ownsRow base e 1 (.slice (some ⟨g, 0, none⟩) (n + 1) c) (n + 1) (xs ++ [u]) ∧ w.grownBy w' v.ownBlock ∧ (v.ownBlock = some g ∨ g = w.heap.size) := by
 obtain ⟨i, hi, hz0, hz1, hz2⟩ := info_parts hinfo
 have hnews : ∀ j u', [u][j]? = some u' → w.cell? ((⟨b, 0, none⟩ : Addr).add j) = some u' := by
  intro j u' hj
  cases j with
  | zero => simp at hj; subst hj; simpa [Addr.add] using hc
  | succ j => simp at hj
 obtain ⟨v', w', hrun, h2, h3, h4, h5⟩ := run_append_own_at (P := P) w base t ty e i z 1 bytes ht hi hz0 hz1 hz2 hzs (by decide) v n xs hown ⟨b, 0, none⟩ 1 1 [u] (by simp) hnews
  (by intro u' hu'; simp at hu'; subst hu'; exact hu) h63 hbytes hbase
 rcases h2.2 with ⟨_, h0⟩ | ⟨g, cap, cur, e1, _⟩
 ·omega
 ·subst e1
  refine ⟨g, cap, w', hrun, h2, h3, ?_⟩
  rcases h5 with h5 | h5
  ·exact .inl h5.symm
  ·right; simpa [Value.ownBlock] using h5
theorem step_push1 {P : Program} {w : World} {ops : Array Oper} {o : Oper} {a : Act} {K : Act → World → Prop} {Q : Exit → Act → World → Prop} {E : Prop} (hgd : o.guard = none) (s x : Operand) (t : TypeId)
  (ho : o.op = .call { callee := .builtin .append, args := #[s, x], argTypes := #[t, t] })
  (base : Nat) (e : TypeId) (z : Value) (bytes : Nat) (ht : P.underlying t = some (.slice e)) (hinfo : (P.info? e).map (fun i => (i.zero, i.size, i.bytes)) = some (some z, 1, bytes)) (hzs : z.cells.size = 1)
  (v : Value) (xs : List Value) (n : Nat) (hs : a.eval s = v) (hown : w.ownsRow base e 1 v n xs)
  (b : Nat) (u : Value) (hu : u.oneCell' = true) (hx : a.eval x = .slice (some ⟨b, 0, none⟩) 1 1) (hc : w.cell? ⟨b, 0, none⟩ = some u)
  (h63 : n + 1 ≤ maxLen) (hbytes : (n + 1) * bytes ≤ 140737488355328) (hbase : base ≤ w.heap.size)
  (h : ∀ g c w', w'.ownsRow base e 1 (.slice (some ⟨g, 0, none⟩) (n + 1) c) (n + 1) (xs ++ [u]) → w.grownBy w' v.ownBlock → (v.ownBlock = some g ∨ g = w.heap.size) → K (a.put o.dst (.slice (some ⟨g, 0, none⟩) (n + 1) c)) w') :
  if Region.wanted o (yielded ops a.tmps) = true then Oper.wp P o a w K Q else E := by
 have hw : Region.wanted o (yielded ops a.tmps) = true := by simp [Region.wanted, hgd]
 rw [if_pos hw]
 obtain ⟨g, c, w', hrun, h1, h2, h3⟩ := run_push1 (P := P) t o.type base e z bytes ht hinfo hzs v xs n hown b u hu hc h63 hbytes hbase
 have h6 := h g c w' h1 h2 h3
 unfold Oper.wp execOp
 simp only [ho, resolve, invoke, builtin, Sem.run_bind, Sem.run_pure, Result.andThen_ok, List.map_toArray, List.map_cons, List.map_nil, hs, hx, hrun]
 exact h6
theorem set_blk4 {w : World} {g : Nat} {a b c d : Value} {t : TypeId} (h : w.heap[g]? = some (.cells #[a, b, c, d] t (0, 0))) (x y z u : Value) :
  ((((w.setCell ⟨g, 0, none⟩ x).setCell ⟨g, 1, none⟩ y).setCell ⟨g, 2, none⟩ z).setCell ⟨g, 3, none⟩ u).heap[g]? = some (.cells #[x, y, z, u] t (0, 0)) :=
 set_blk (set_blk (set_blk (set_blk h 0 x) 1 y) 2 z) 3 u
end Go.Proofs.YtiheiaaifdjpeaaGreat

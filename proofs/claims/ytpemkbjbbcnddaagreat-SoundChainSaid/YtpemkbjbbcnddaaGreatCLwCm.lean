/- Memory while SoundChain builds its program. No condition. -/
import Derived.Test.YtpemkbjbbcnddaaGreatCLwCh
import Derived.Test.YtpemkbjbbcnddaaGreatCOwnN
import Derived.Test.YtpemkbjbbcnddaaGreatCSndCk
import Derived.Test.YtpemkbjbbcnddaaGreatCLwC
set_option linter.unusedVariables false
set_option linter.unusedSimpArgs false
set_option linter.unusedSectionVars false
namespace Go.Proofs.YtpemkbjbbcnddaaGreat
open Go.RowKit Go.Shelf

theorem insInfo : (Tryz.prog.info? 45).map (fun i => (i.zero, i.size, i.bytes)) = some (some (.agg #[.int .u8 0, .string ⟨#[]⟩, .string ⟨#[]⟩, .string ⟨#[]⟩, .int .i64 0, .string ⟨#[]⟩, .slice none 0 0, .slice none 0 0]), 8, 128) := by kernel_rfl
theorem blkInfo : (Tryz.prog.info? 42).map (fun i => (i.zero, i.size, i.bytes)) = some (some (.agg #[.string ⟨#[]⟩, .slice none 0 0]), 2, 40) := by kernel_rfl
/-- An instruction's cells that has no arguments. -/
def encI (x : GIns) (vl : Value) : List Value := [.int .u8 x.op, .string ⟨x.dst.toArray⟩, .string ⟨x.a.toArray⟩, .string ⟨x.b.toArray⟩, .int .i64 x.n, .string ⟨x.fn.toArray⟩, .slice none 0 0, vl]
/-- Code that is read so however what Q names may turn. -/
def CodeF (Q : Nat → Prop) (w : World) (vc : Value) (code : List GIns) : Prop := ∀ w', Agr Q w w' → CodeAt w' w'.heap.size vc code
theorem CodeF.keep {Q Q1 : Nat → Prop} {w w1 : World} {vc : Value} {code : List GIns} (h : CodeF Q w vc code) (ha : Agr Q w w1) (hq : ∀ k, k < w.heap.size → Q1 k → Q k) : CodeF Q1 w1 vc code :=
  fun w'' h'' => h w'' (ha.trans h'' hq)
theorem strs_blk {w : World} {L : Nat} {l : List Str} (h : w.heap[L]? = some (.cells (l.map encS).toArray 9 (0, 0))) (hm : l.length ≤ 65536) (hl : ∀ s ∈ l, s.length ≤ 9223372036854775807) : StrsAt w w.heap.size (.slice (some ⟨L, 0, none⟩) l.length l.length) l :=
  slBlk rfl hm (seen_lt h) fun k x hx => ⟨by rw [Nat.mul_one, (blk_facts h).1]; simp [hx, encS], hl x (List.mem_of_getElem? hx)⟩
/-- Labels of an instruction: none, or a row that is known. -/
def LabAt (w : World) (lo : Nat) (vl : Value) (l : List Str) : Prop := (l = [] ∧ vl = .slice none 0 0) ∨ ∃ L, lo ≤ L ∧ L < w.heap.size ∧ vl = .slice (some ⟨L, 0, none⟩) l.length l.length ∧ w.heap[L]? = some (.cells (l.map encS).toArray 9 (0, 0)) ∧ l.length ≤ 65536 ∧ ∀ s ∈ l, s.length ≤ 9223372036854775807
theorem LabAt.grow {w w' : World} {lo : Nat} {vl : Value} {l : List Str} {row : Option Nat} (h : LabAt w lo vl l) (hg : w.grownBy w' row) (hr : ∀ r, row = some r → ∀ L, vl.ownBlock = some L → L ≠ r) : LabAt w' lo vl l := by
  rcases h with h | ⟨L, h1, h2, rfl, h4, h5⟩
  · exact .inl h
  · exact .inr ⟨L, h1, Nat.lt_of_lt_of_le h2 hg.size, rfl, (hg.block L h2 (fun e => hr L e.symm L rfl rfl)).trans h4, h5⟩
/-- An instruction with no arguments that is in bounds. -/
def InsOk (x : GIns) : Prop := x.args = [] ∧ x.op < 256 ∧ -9223372036854775808 ≤ x.n ∧ x.n ≤ 9223372036854775807 ∧ x.dst.length ≤ 9223372036854775807 ∧ x.a.length ≤ 9223372036854775807 ∧ x.b.length ≤ 9223372036854775807 ∧ x.fn.length ≤ 9223372036854775807
theorem CodeF.new {Q : Nat → Prop} {w : World} {base lo n : Nat} {vc : Value} {xs : List Value} {l : List (GIns × Value)} (ho : w.ownsRow base 45 8 vc n xs) (hn : n = l.length) (hx : xs = l.flatMap fun p => encI p.1 p.2) (hq : ∀ g, base ≤ g → g < w.heap.size → ¬ Q g)
    (hq2 : ∀ g, lo ≤ g → g < w.heap.size → ¬ Q g) (hi : ∀ p ∈ l, InsOk p.1 ∧ LabAt w lo p.2 p.1.labels) : CodeF Q w vc (l.map (·.1)) := by
  intro w' ha
  obtain ⟨A, c, e1, hc, hm, h0, h1⟩ := owns_slice' ho
  refine SlAt.of_ownN ho (by simp [hn]) (fun g hg => ?_) (fun g k x hg hk => ?_)
  · have := (ho.lt g hg).2
    exact Nat.lt_of_lt_of_le this ha.1
  · obtain ⟨hb1, hb2⟩ := ho.lt g hg
    have hA : A = some ⟨g, 0, none⟩ := by
      rw [e1] at hg
      cases A with
      | none => cases hg
      | some a =>
        have h3 := (h1 a rfl).1
        injection hg with hg
        rw [h3, hg]
    subst hA
    rw [e1] at ho
    obtain ⟨_, _, _, _, hcell⟩ := owns_cells ho
    rw [List.getElem?_map] at hk
    cases hp : l[k]? with
    | none => rw [hp] at hk; cases hk
    | some p =>
      rw [hp] at hk
      injection hk with hk
      subst hk
      obtain ⟨⟨k1, k2, k3, k4, k5, k6, k7, k8⟩, hlab⟩ := hi p (List.mem_of_getElem? hp)
      have hcw : ∀ j u, j < 8 → (encI p.1 p.2)[j]? = some u → w'.cell? ⟨g, k * 8 + j, none⟩ = some u := fun j u hj hu => by
        have h2 := hcell (k * 8 + j) u (by rw [hx, flatMap_at (sz := 8) (fun z _ => by simp [encI]) hp hj]; exact hu)
        rw [← h2]
        exact World.cell?_of_block (ha.2 g hb2 (hq g hb1 hb2))
      have hL : StrsAt w' w'.heap.size p.2 p.1.labels := by
        rcases hlab with ⟨e2, e3⟩ | ⟨L, h2, h3, e3, h4, h5, h6⟩
        · rw [e2, e3]; exact SlAt.nil_ _ _ _ _
        · rw [e3]
          exact strs_blk ((ha.2 L h3 (hq2 L h2 h3)).trans h4) h5 h6
      have hLl : p.1.labels.length ≤ 65536 := by
        rcases hlab with ⟨e2, _⟩ | ⟨L, _, _, _, _, h5, _⟩
        · rw [e2]; decide
        · exact h5
      have hc0 := hcw 0 _ (by decide) rfl
      rw [Nat.add_zero] at hc0
      refine ⟨.slice none 0 0, p.2, ⟨?_, by rw [k1]; decide, Nat.le_trans hLl (by decide), hL, k2, k3, k4, k5, k6, k7, k8⟩, hc0, hcw 1 _ (by decide) rfl, hcw 2 _ (by decide) rfl, hcw 3 _ (by decide) rfl, hcw 4 _ (by decide) rfl, hcw 5 _ (by decide) rfl, hcw 6 _ (by decide) rfl, hcw 7 _ (by decide) rfl⟩
      rw [k1]
      exact SlAt.nil_ _ _ _ _

theorem LabAt.lo {w : World} {lo lo' : Nat} {vl : Value} {l : List Str} (h : LabAt w lo vl l) (hl : lo' ≤ lo) : LabAt w lo' vl l := by
  rcases h with h | ⟨L, h1, h2⟩
  · exact .inl h
  · exact .inr ⟨L, Nat.le_trans hl h1, h2⟩
theorem LabAt.low {w : World} {lo : Nat} {vl : Value} {l : List Str} (h : LabAt w lo vl l) {L : Nat} (hL : vl.ownBlock = some L) : lo ≤ L := by
  rcases h with ⟨_, rfl⟩ | ⟨L', h1, _, rfl, _⟩
  · cases hL
  · injection hL with hL
    simp only at hL
    omega
theorem pre_ok {d u i : Nat} : ∀ x ∈ cPre d u i, InsOk x ∧ x.labels = [] := by
  intro x hx
  rcases pre_mem hx with ⟨rfl, _⟩ | ⟨rfl, _⟩
  · exact ⟨⟨rfl, by decide, by decide, by decide, by decide, by decide, by decide, by decide⟩, rfl⟩
  · exact ⟨⟨rfl, by decide, by decide, by decide, by decide, by decide, by decide, by decide⟩, rfl⟩
theorem end_ok (k a t i : Nat) : InsOk (cEnd k a t i) := by
  rcases end_cases k a t i with ⟨_, h1⟩ | ⟨_, _, h1⟩ | ⟨_, _, h1⟩ <;> rw [h1] <;> exact ⟨rfl, by simp, by simp, by simp, by simp, by simp, by simp, by simp⟩
def cEnd1 (k i : Nat) : GIns := if i + 1 < k then ⟨13, [], [], [], 0, [], [], [nmB (i + 1)]⟩ else ⟨14, [], [], [], 0, [], [], []⟩
/-- A block's code when it is laid whole. -/
theorem ch_code {k d u a t i : Nat} {w : World} {base lo n : Nat} {vc vl : Value} {xs : List Value} (ho : w.ownsRow base 45 8 vc n xs) (hn : n = (cPre d u i).length + 1) (hx : xs = ((cPre d u i).flatMap fun x => encI x (.slice none 0 0)) ++ encI (cEnd k a t i) vl) (hl : LabAt w lo vl (cEnd k a t i).labels)
    {lo2 : Nat} (h1 : lo2 ≤ base) (h2 : lo2 ≤ lo) : ∀ Q : Nat → Prop, (∀ k, lo2 ≤ k → k < w.heap.size → ¬ Q k) → CodeF Q w vc (cBlk k d u a t i).code := by
  intro Q hQ
  have e : (cBlk k d u a t i).code = (((cPre d u i).map fun x => (x, Value.slice none 0 0)) ++ [(cEnd k a t i, vl)]).map (·.1) := by simp [cBlk, Function.comp_def]
  rw [e]
  refine CodeF.new (lo := lo2) ho (by simp [hn]) (by rw [hx]; simp [List.flatMap_map]) (fun g h3 h4 => hQ g (Nat.le_trans h1 h3) h4) (fun g h3 h4 => hQ g h3 h4) fun p hp => ?_
  rcases List.mem_append.1 hp with hp | hp
  · obtain ⟨x, hx, rfl⟩ := List.mem_map.1 hp
    obtain ⟨h3, h4⟩ := pre_ok x hx
    exact ⟨h3, .inl ⟨h4, rfl⟩⟩
  · rw [List.mem_singleton.1 hp]
    exact ⟨end_ok k a t i, hl.lo h2⟩
def cPre1 (d i : Nat) : List GIns := if i = d then [cNull] else []
/-- An instruction is written over another one. -/
def setIns (w : World) (g : Nat) (a b c d e f h i : Value) : World := (((((((w.setCell ⟨g, 0, none⟩ a).setCell ⟨g, 1, none⟩ b).setCell ⟨g, 2, none⟩ c).setCell ⟨g, 3, none⟩ d).setCell ⟨g, 4, none⟩ e).setCell ⟨g, 5, none⟩ f).setCell ⟨g, 6, none⟩ h).setCell ⟨g, 7, none⟩ i
theorem setIns_grown (w : World) (g : Nat) (a b c d e f h i : Value) : w.grownBy (setIns w g a b c d e f h i) (some g) := by
  unfold setIns
  have h1 := grown_setRow (World.grownBy.refl w (some g)) (p := ⟨g, 0, none⟩) rfl a
  have h2 := grown_setRow h1 (p := ⟨g, 1, none⟩) rfl b
  have h3 := grown_setRow h2 (p := ⟨g, 2, none⟩) rfl c
  have h4 := grown_setRow h3 (p := ⟨g, 3, none⟩) rfl d
  have h5 := grown_setRow h4 (p := ⟨g, 4, none⟩) rfl e
  have h6 := grown_setRow h5 (p := ⟨g, 5, none⟩) rfl f
  have h7 := grown_setRow h6 (p := ⟨g, 6, none⟩) rfl h
  exact grown_setRow h7 (p := ⟨g, 7, none⟩) rfl i
theorem setIns_blk {w : World} {g : Nat} {x : GIns} {v : Value} {t : TypeId} (hb : w.heap[g]? = some (.cells (encI x v).toArray t (0, 0))) (a b c d e f h i : Value) : (setIns w g a b c d e f h i).heap[g]? = some (.cells #[a, b, c, d, e, f, h, i] t (0, 0)) := by
  unfold setIns
  have h1 := set_blk hb 0 a
  have h2 := set_blk h1 1 b
  have h3 := set_blk h2 2 c
  have h4 := set_blk h3 3 d
  have h5 := set_blk h4 4 e
  have h6 := set_blk h5 5 f
  have h7 := set_blk h6 6 h
  have h8 := set_blk h7 7 i
  rw [h8]
  simp [encI]
/-- While the blocks are being laid: i of them are. -/
structure ChI (w : World) (FB k d u a t i : Nat) (vb : Value) (xs : List Value) (wr : World) : Prop where
  low : w.grownBy wr none
  fb : wr.heap[FB]? = some (.cells #[.string ⟨mainS.toArray⟩, .slice none 0 0, vb] 37 (0, 0))
  lo : w.heap.size ≤ FB
  own : wr.ownsRow (FB + 1) 42 2 vb i xs
  cs : ∀ j, j < i → ∃ vc, xs[j * 2]? = some (.string ⟨(nmB j).toArray⟩) ∧ xs[j * 2 + 1]? = some vc ∧ CodeF (Qv FB vb) wr vc (cBlk k d u a t j).code
theorem ChI.step {w : World} {FB k d u a t i : Nat} {vb : Value} {xs : List Value} {wr wx wy w2 : World} (h : ChI w FB k d u a t i vb xs wr) (hg : wr.grownBy wx none) {vc : Value}
    (hc : ∀ Q : Nat → Prop, (∀ k, wr.heap.size ≤ k → k < wx.heap.size → ¬ Q k) → CodeF Q wx vc (cBlk k d u a t i).code) (hgy : wx.grownBy wy none) {G c : Nat} (ho : w2.ownsRow (FB + 1) 42 2 (.slice (some ⟨G, 0, none⟩) (i + 1) c) (i + 1) (xs ++ [.string ⟨(nmB i).toArray⟩, vc]))
    (hg2 : wy.grownBy w2 vb.ownBlock) (hor : vb.ownBlock = some G ∨ G = wy.heap.size) : ChI w FB k d u a t (i + 1) (.slice (some ⟨G, 0, none⟩) (i + 1) c) (xs ++ [.string ⟨(nmB i).toArray⟩, vc]) (w2.setCell ⟨FB, 2, none⟩ (.slice (some ⟨G, 0, none⟩) (i + 1) c)) := by
  have hFB := seen_lt h.fb
  have hs1 := hg.size
  have hs2 := hgy.size
  have hs3 := hg2.size
  have hlo := h.lo
  have hs0 := h.low.size
  have hvb : ∀ g, vb.ownBlock = some g → FB + 1 ≤ g ∧ g < wr.heap.size := fun g e => h.own.lt g e
  have hne : some FB ≠ vb.ownBlock := fun e => by have := (hvb FB e.symm).1; omega
  have hG : FB < G := by
    rcases hor with e | e
    · have := (hvb G e).1; omega
    · omega
  have hgry : wr.grownBy w2 vb.ownBlock := grown_trans (grown_trans (grown_but hg _) (grown_but hgy _)) hg2
  have hfb2 : w2.heap[FB]? = some (.cells #[.string ⟨mainS.toArray⟩, .slice none 0 0, vb] 37 (0, 0)) := (hgry.block FB hFB hne).trans h.fb
  have hset : (w2.setCell ⟨FB, 2, none⟩ (.slice (some ⟨G, 0, none⟩) (i + 1) c)).heap[FB]? = some (.cells #[.string ⟨mainS.toArray⟩, .slice none 0 0, .slice (some ⟨G, 0, none⟩) (i + 1) c] 37 (0, 0)) := by
    simp [World.setCell, Array.getElem?_modify, hfb2]
  have hgs : w2.grownBy (w2.setCell ⟨FB, 2, none⟩ (.slice (some ⟨G, 0, none⟩) (i + 1) c)) (some FB) := grown_setRow (World.grownBy.refl _ _) rfl _
  have hgsz := hgs.size
  -- what may turn
  have hQ : ∀ j, j < wr.heap.size → Qv FB (.slice (some ⟨G, 0, none⟩) (i + 1) c) j → Qv FB vb j := fun j hj e => by
    rcases e with e | e
    · exact .inl e
    · injection e with e
      simp only at e
      subst e
      rcases hor with e | e
      · exact .inr e
      · omega
  have hA : Agr (Qv FB vb) wr (w2.setCell ⟨FB, 2, none⟩ (.slice (some ⟨G, 0, none⟩) (i + 1) c)) :=
    (Agr.grown (Q := Qv FB vb) hgry (fun r e => .inr e)).trans (Agr.grown (Q := Qv FB vb) hgs (fun r e => .inl (by injection e with e; exact e.symm))) (fun _ _ e => e)
  have hxl : xs.length = i * 2 := h.own.1
  refine ⟨?_, hset, h.lo, ho.kept hgs (.inr (by intro e; injection e with e; simp only at e; omega)), fun j hj => ?_⟩
  · refine ⟨by rw [hgs.os, hgry.os, h.low.os], by rw [hgs.tape, hgry.tape, h.low.tape], by rw [hgs.output, hgry.output, h.low.output], by omega, fun n hn _ => ?_⟩
    have e1 : some n ≠ vb.ownBlock := fun e => by have := (hvb n e.symm).1; omega
    rw [hgs.block n (by omega) (by intro e; injection e with e; omega), hgry.block n (by omega) e1]
    exact h.low.block n hn (by simp)
  · by_cases e : j = i
    · subst e
      refine ⟨vc, by rw [List.getElem?_append_right (by omega), hxl]; simp, by rw [List.getElem?_append_right (by omega), hxl, show j * 2 + 1 - j * 2 = 1 by omega]; rfl, ?_⟩
      refine (hc (fun n => n = FB ∨ vb.ownBlock = some n ∨ wx.heap.size ≤ n) (fun n h1 h2 e => ?_)).keep (w1 := w2.setCell ⟨FB, 2, none⟩ _) ?_ (fun n hn e => ?_)
      · rcases e with e | e | e
        · omega
        · have := (hvb n e).2; omega
        · omega
      · exact (Agr.grown (Q := fun n => n = FB ∨ vb.ownBlock = some n ∨ wx.heap.size ≤ n) (grown_trans (grown_but hgy _) hg2) (fun r e => .inr (.inl e))).trans (Agr.grown (Q := Qv FB vb) hgs (fun r e => .inl (by injection e with e; exact e.symm))) (fun n _ e => by
          rcases e with e | e
          · exact .inl e
          · exact .inr (.inl e))
      · rcases e with e | e
        · exact .inl e
        · injection e with e
          simp only at e
          subst e
          rcases hor with e | e
          · exact .inr (.inl e)
          · omega
    · obtain ⟨vc', h1, h2, h3⟩ := h.cs j (by omega)
      exact ⟨vc', by rw [List.getElem?_append_left (by omega)]; exact h1, by rw [List.getElem?_append_left (by omega)]; exact h2, h3.keep hA hQ⟩
/-- All blocks laid: the program reads. -/
theorem ChI.prog {w : World} {FB k d u a t : Nat} {vb : Value} {xs : List Value} {wr : World} (h : ChI w FB k d u a t k vb xs wr) (hk : k ≤ 20) {w' : World} {P : Nat} (hg : wr.grownBy w' none) (hP : w'.heap[P]? = some (.cells #[.string ⟨mainS.toArray⟩, .slice none 0 0, vb] 37 (0, 0))) :
    ProgAt w' w'.heap.size (.slice (some ⟨P, 0, none⟩) 1 1) [cFun k d u a t] := by
  have ho := h.own.kept hg (by cases vb.ownBlock <;> simp)
  have hbs : BlocksAt w' w'.heap.size vb (cBlks k d u a t) := by
    obtain ⟨A, c, e1, _, _, _, h1⟩ := owns_slice' ho
    refine SlAt.of_ownN ho blks_len.symm (fun g e => (ho.lt g e).2) (fun g j y e hy => ?_)
    have hA : A = some ⟨g, 0, none⟩ := by
      rw [e1] at e
      cases A with
      | none => cases e
      | some a =>
        have h3 := (h1 a rfl).1
        injection e with e
        rw [h3, e]
    subst hA
    rw [e1] at ho
    obtain ⟨_, _, _, _, hcell⟩ := owns_cells ho
    obtain ⟨hj, rfl⟩ := blks_of hy
    obtain ⟨vc, h2, h3, h4⟩ := h.cs j hj
    refine ⟨vc, ⟨h4 w' (Agr.grown hg (fun r e => by cases e)), ?_⟩, hcell _ _ h2, hcell _ _ h3⟩
    show (nmB j).length ≤ _
    simp [nmB]
  refine slBlk rfl (by decide) (seen_lt hP) (get_one ⟨.slice none 0 0, vb, ⟨SlAt.nil_ _ _ _ _, hbs, by show mainS.length ≤ _; decide⟩, ?_, ?_, ?_⟩)
  · exact (blk_facts hP).1 0
  · exact (blk_facts hP).1 1
  · exact (blk_facts hP).1 2
end Go.Proofs.YtpemkbjbbcnddaaGreat

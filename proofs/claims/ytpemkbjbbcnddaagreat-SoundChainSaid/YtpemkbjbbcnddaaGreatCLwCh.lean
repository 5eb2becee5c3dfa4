/- Blocks in a row, each of which leads to the next one, and perhaps past some: what sound.Check answers, in plain Lean. No condition. -/
import Derived.Test.YtpemkbjbbcnddaaGreatCLwV
import Derived.Test.YtpemkbjbbcnddaaGreatCLw
set_option linter.unusedVariables false
set_option linter.unusedSimpArgs false
set_option linter.unusedSectionVars false
namespace Go.Proofs.YtpemkbjbbcnddaaGreat

def nmB (i : Nat) : Str := [98, UInt8.ofNat (48 + i / 10), UInt8.ofNat (48 + i % 10)]
def cNull : GIns := ⟨3, [120], [], [], 0, [], [], []⟩
def cCopy : GIns := ⟨5, [121], [120], [], 0, [], [], []⟩
def cEnd (k a t i : Nat) : GIns := if i = a then ⟨12, [], [], [], 0, [], [], [nmB (i + 1), nmB t]⟩ else if i + 1 < k then ⟨13, [], [], [], 0, [], [], [nmB (i + 1)]⟩ else ⟨14, [], [], [], 0, [], [], []⟩
def cPre (d u i : Nat) : List GIns := (if i = d then [cNull] else []) ++ (if i = u then [cCopy] else [])
def cBlk (k d u a t i : Nat) : GBlk := ⟨nmB i, cPre d u i ++ [cEnd k a t i]⟩
def cBlks (k d u a t : Nat) : List GBlk := (List.range k).map (cBlk k d u a t)
def cFun (k d u a t : Nat) : GFun := ⟨mainS, [], cBlks k d u a t⟩
/-- How the numbers lie. -/
structure ChOk (k d u a t : Nat) : Prop where
  k1 : 3 ≤ k
  k2 : k ≤ 20
  hd : d < k
  hu : u < k
  ha : a + 1 < k
  ht1 : a < t
  ht2 : t < k

theorem nm_inj : ∀ i, i < 20 → ∀ j, j < 20 → nmB i = nmB j → i = j := by decide
theorem nm_ok : ∀ i, i < 20 → isName (nmB i) = true := by decide
section
variable {k d u a t : Nat}
theorem blks_len : (cBlks k d u a t).length = k := by simp [cBlks]
theorem blks_at {i : Nat} (h : i < k) : (cBlks k d u a t)[i]? = some (cBlk k d u a t i) := by simp [cBlks, h]
theorem blks_of {i : Nat} {y : GBlk} (h : (cBlks k d u a t)[i]? = some y) : i < k ∧ y = cBlk k d u a t i := by
  have hl := (List.getElem?_eq_some_iff.1 h).1
  rw [blks_len] at hl
  rw [blks_at hl] at h
  exact ⟨hl, by cases h; rfl⟩
theorem lab_at {i : Nat} (h : i < k) : labAt (cBlks k d u a t) i = nmB i := by simp [labAt, blks_at h, cBlk]
theorem lbl_at (hk : k ≤ 20) {i : Nat} (h : i < k) : lblIdx (cBlks k d u a t) (nmB i) = some i := by
  unfold lblIdx
  rw [List.find?_range_eq_some]
  rw [blks_len]
  refine ⟨by rw [lab_at h]; simp, by simpa using h, fun j hj => ?_⟩
  rw [lab_at (by omega)]
  simp only [Bool.not_eq_true', beq_eq_false_iff_ne, ne_eq]
  intro e
  have := nm_inj i (by omega) j (by omega) e
  omega
theorem pre_mem {i : Nat} {x : GIns} (h : x ∈ cPre d u i) : (x = cNull ∧ i = d) ∨ (x = cCopy ∧ i = u) := by
  unfold cPre at h
  rcases List.mem_append.1 h with h | h
  · split at h
    · rename_i e; exact .inl ⟨by simpa using h, e⟩
    · cases h
  · split at h
    · rename_i e; exact .inr ⟨by simpa using h, e⟩
    · cases h
theorem code_mem {i : Nat} {x : GIns} (h : x ∈ (cBlk k d u a t i).code) : (x = cNull ∧ i = d) ∨ (x = cCopy ∧ i = u) ∨ x = cEnd k a t i := by
  rcases List.mem_append.1 (show x ∈ cPre d u i ++ [cEnd k a t i] from h) with h | h
  · rcases pre_mem h with h | h
    · exact .inl h
    · exact .inr (.inl h)
  · exact .inr (.inr (by simpa using h))
theorem end_cases (k a t i : Nat) : (i = a ∧ cEnd k a t i = ⟨12, [], [], [], 0, [], [], [nmB (i + 1), nmB t]⟩) ∨ (i ≠ a ∧ i + 1 < k ∧ cEnd k a t i = ⟨13, [], [], [], 0, [], [], [nmB (i + 1)]⟩) ∨ (i ≠ a ∧ ¬ i + 1 < k ∧ cEnd k a t i = ⟨14, [], [], [], 0, [], [], []⟩) := by
  unfold cEnd
  by_cases h1 : i = a
  · exact .inl ⟨h1, by rw [if_pos h1]⟩
  · by_cases h2 : i + 1 < k
    · exact .inr (.inl ⟨h1, h2, by rw [if_neg h1, if_pos h2]⟩)
    · exact .inr (.inr ⟨h1, h2, by rw [if_neg h1, if_neg h2]⟩)
/-- What is so of each kind of instruction is so of all. -/
theorem code_all (P : GIns → Prop) (h : ChOk k d u a t) (p1 : P cNull) (p2 : P cCopy) (p3 : P ⟨14, [], [], [], 0, [], [], []⟩) (p4 : ∀ i, 0 < i → i < k → P ⟨13, [], [], [], 0, [], [], [nmB i]⟩) (p5 : ∀ i, 0 < i → i < k → ∀ j, 0 < j → j < k → P ⟨12, [], [], [], 0, [], [], [nmB i, nmB j]⟩)
    {i : Nat} {y : GBlk} (hy : (cBlks k d u a t)[i]? = some y) {x : GIns} (hx : x ∈ y.code) : P x := by
  obtain ⟨hi, rfl⟩ := blks_of hy
  rcases code_mem hx with ⟨rfl, _⟩ | ⟨rfl, _⟩ | rfl
  · exact p1
  · exact p2
  · rcases end_cases k a t i with ⟨e, h1⟩ | ⟨_, h2, h1⟩ | ⟨_, _, h1⟩
    · rw [h1]; exact p5 _ (by omega) (by have := h.ha; omega) _ (by have := h.ht1; omega) h.ht2
    · rw [h1]; exact p4 _ (by omega) h2
    · rw [h1]; exact p3
theorem last_at {i : Nat} : lastIns (cBlk k d u a t i) = cEnd k a t i := by simp [lastIns, cBlk]
theorem one_of {i : Nat} {f : GFun} (h : ([cFun k d u a t] : GProg)[i]? = some f) : i = 0 ∧ f = cFun k d u a t := by
  have hl := (List.getElem?_eq_some_iff.1 h).1
  have : i = 0 := by simpa using hl
  subst this
  exact ⟨rfl, by simpa using h.symm⟩
theorem one_none {β : Type} {g : Nat → GFun → Option β} (h : g 0 (cFun k d u a t) = none) : firstOf ([cFun k d u a t] : GProg) g = none :=
  firstOf_none fun j _ f hf => by obtain ⟨rfl, rfl⟩ := one_of hf; exact h
theorem find_none {g : GPt → GIns → Bool} (h : ∀ i y, (cBlks k d u a t)[i]? = some y → ∀ j x, y.code[j]? = some x → g (0, i, j) x = false) : findP [cFun k d u a t] g = none := by
  refine firstOf_none fun j _ x hx => ?_
  obtain ⟨f, y, h1, h2, h3⟩ := of_mem_pts (List.mem_of_getElem? hx)
  obtain ⟨e, rfl⟩ := one_of h1
  have := h _ y h2 _ x.2 h3
  have e2 : x.1 = (0, x.1.2.1, x.1.2.2) := by rw [← e]
  rw [e2]
  rw [this]
  rfl
theorem code_len {i : Nat} : (cBlk k d u a t i).code.length ≤ 3 := by
  simp only [cBlk, cPre]
  split <;> split <;> simp
theorem ptsBlocks_le (f : Nat) : ∀ (l : List GBlk) (b : Nat), (∀ y ∈ l, y.code.length ≤ 3) → (ptsBlocks f b l).length ≤ 3 * l.length
  | [], _, _ => by simp [ptsBlocks]
  | y :: l, b, h => by
    have := ptsBlocks_le f l (b + 1) (fun z hz => h z (List.mem_cons_of_mem _ hz))
    have := h y (by simp)
    simp only [ptsBlocks, List.length_append, ptsCode_length, List.length_cons]
    omega
theorem dsts_mem {s : Str} (h : s ∈ dstsB (cBlks k d u a t)) : s = [] ∨ s = [120] ∨ s = [121] := by
  unfold dstsB dstsC at h
  obtain ⟨y, hy, h⟩ := List.mem_flatMap.1 h
  obtain ⟨x, hx, rfl⟩ := List.mem_map.1 h
  obtain ⟨i, hi⟩ := List.mem_iff_getElem?.1 hy
  obtain ⟨_, rfl⟩ := blks_of hi
  rcases code_mem hx with ⟨rfl, _⟩ | ⟨rfl, _⟩ | rfl
  · exact .inr (.inl rfl)
  · exact .inr (.inr rfl)
  · left
    rcases end_cases k a t i with ⟨_, h1⟩ | ⟨_, _, h1⟩ | ⟨_, _, h1⟩ <;> rw [h1]
theorem pre_dst {i j : Nat} {x : GIns} (hx : (cBlk k d u a t i).code[j]? = some x) (hd : x.dst ≠ []) : (x = cNull ∧ i = d ∧ j = 0) ∨ (x = cCopy ∧ i = u ∧ j = (if i = d then 1 else 0)) := by
  have hd' : ∀ z, z = cEnd k a t i → z.dst = [] := fun z hz => by
    subst hz
    rcases end_cases k a t i with ⟨_, h1⟩ | ⟨_, _, h1⟩ | ⟨_, _, h1⟩ <;> rw [h1]
  simp only [cBlk, cPre] at hx
  by_cases h1 : i = d
  · rw [if_pos h1] at hx ⊢
    by_cases h2 : i = u
    · rw [if_pos h2] at hx
      match j with
      | 0 => exact .inl ⟨by simpa using hx.symm, h1, rfl⟩
      | 1 => exact .inr ⟨by simpa using hx.symm, h2, rfl⟩
      | 2 => exact absurd (hd' x (by simpa using hx.symm)) hd
      | n + 3 => simp at hx
    · rw [if_neg h2] at hx
      match j with
      | 0 => exact .inl ⟨by simpa using hx.symm, h1, rfl⟩
      | 1 => exact absurd (hd' x (by simpa using hx.symm)) hd
      | n + 2 => simp at hx
  · rw [if_neg h1] at hx ⊢
    by_cases h2 : i = u
    · rw [if_pos h2] at hx
      match j with
      | 0 => exact .inr ⟨by simpa using hx.symm, h2, rfl⟩
      | 1 => exact absurd (hd' x (by simpa using hx.symm)) hd
      | n + 2 => simp at hx
    · rw [if_neg h2] at hx
      match j with
      | 0 => exact absurd (hd' x (by simpa using hx.symm)) hd
      | n + 1 => simp at hx

theorem nm_ne (h : ChOk k d u a t) {i : Nat} (h0 : 0 < i) (hi : i < k) : nmB i ≠ nmB 0 := fun e => by
  have := nm_inj i (by have := h.k2; omega) 0 (by omega) e
  omega
theorem ch_labels (h : ChOk k d u a t) {i : Nat} {y : GBlk} (hy : (cBlks k d u a t)[i]? = some y) {x : GIns} (hx : x ∈ y.code) : ∀ s ∈ x.labels, ∃ j, 0 < j ∧ j < k ∧ s = nmB j := by
  refine code_all (fun x => ∀ s ∈ x.labels, ∃ j, 0 < j ∧ j < k ∧ s = nmB j) h (by simp [cNull]) (by simp [cCopy]) (by simp) (fun i h1 h2 s hs => ?_) (fun i h1 h2 j h3 h4 s hs => ?_) hy hx
  · exact ⟨i, h1, h2, by simpa using hs⟩
  · simp only [List.mem_cons, List.not_mem_nil, or_false] at hs
    rcases hs with rfl | rfl
    · exact ⟨i, h1, h2, rfl⟩
    · exact ⟨j, h3, h4, rfl⟩
theorem ch_op (h : ChOk k d u a t) {i : Nat} {y : GBlk} (hy : (cBlks k d u a t)[i]? = some y) {x : GIns} (hx : x ∈ y.code) : x.op ∈ [3, 5, 12, 13, 14] :=
  code_all (fun x => x.op ∈ [3, 5, 12, 13, 14]) h (by decide) (by decide) (by decide) (fun _ _ _ => by simp) (fun _ _ _ _ _ _ => by simp) hy hx
theorem wrong1 : ∀ i, i < 20 → wrongName ⟨13, [], [], [], 0, [], [], [nmB i]⟩ = false ∧ badIns ⟨13, [], [], [], 0, [], [], [nmB i]⟩ = false := by decide
theorem wrong2 : ∀ i, i < 20 → ∀ j, j < 20 → wrongName ⟨12, [], [], [], 0, [], [], [nmB i, nmB j]⟩ = false ∧ badIns ⟨12, [], [], [], 0, [], [], [nmB i, nmB j]⟩ = false := by decide
theorem ch_wrong (h : ChOk k d u a t) {i : Nat} {y : GBlk} (hy : (cBlks k d u a t)[i]? = some y) {x : GIns} (hx : x ∈ y.code) : wrongName x = false ∧ badIns x = false :=
  code_all (fun x => wrongName x = false ∧ badIns x = false) h (by decide) (by decide) (by decide) (fun i _ hi => wrong1 i (by have := h.k2; omega)) (fun i _ hi j _ hj => wrong2 i (by have := h.k2; omega) j (by have := h.k2; omega)) hy hx
theorem ch_uses (h : ChOk k d u a t) {i : Nat} {y : GBlk} (hy : (cBlks k d u a t)[i]? = some y) {x : GIns} (hx : x ∈ y.code) : (x.a = [] ∨ x.a = [120]) ∧ x.b = [] ∧ x.args = [] :=
  code_all (fun x => (x.a = [] ∨ x.a = [120]) ∧ x.b = [] ∧ x.args = []) h (by decide) (by decide) (by decide) (fun i _ hi => ⟨.inl rfl, rfl, rfl⟩) (fun i _ hi j _ hj => ⟨.inl rfl, rfl, rfl⟩) hy hx
theorem ch_x (h : ChOk k d u a t) : [120] ∈ dstsB (cBlks k d u a t) := by
  unfold dstsB dstsC
  refine List.mem_flatMap.2 ⟨_, List.mem_of_getElem? (blks_at h.hd), List.mem_map.2 ⟨cNull, ?_, rfl⟩⟩
  simp [cBlk, cPre]
theorem take_blk {i : Nat} {y : GBlk} (h : y ∈ (cBlks k d u a t).take i) : ∃ j, j < i ∧ j < k ∧ y = cBlk k d u a t j := by
  obtain ⟨j, hj⟩ := List.mem_iff_getElem?.1 h
  have hl := (List.getElem?_eq_some_iff.1 hj).1
  rw [List.length_take] at hl
  rw [List.getElem?_take_of_lt (by omega)] at hj
  obtain ⟨h1, h2⟩ := blks_of hj
  exact ⟨j, by omega, h1, h2⟩

theorem ch_names (h : ChOk k d u a t) : namesChk [cFun k d u a t] = (0, (0, 0, 0)) := by
  have hk1 := h.k1
  have hk2 := h.k2
  have key : ∀ r, 1 ≤ r → r ≤ 16 → ruleAt [cFun k d u a t] r = none := by
    intro r h1 h2
    have r1 : rManyFuncs [cFun k d u a t] = none := by simp [rManyFuncs]
    have r2 : rBadName [cFun k d u a t] = none := by
      refine one_none ?_
      unfold bnF
      rw [if_neg (by simp only [cFun, List.any_nil, Bool.or_false, Bool.not_eq_true']; decide)]
      refine firstOf_none fun i _ y hy => ?_
      unfold bnB
      rw [if_neg (by obtain ⟨hi, rfl⟩ := blks_of hy; simp [cBlk, nm_ok i (by omega)])]
      refine firstOf_none fun j _ x hx => ?_
      unfold bnC
      rw [(ch_wrong h hy (List.mem_of_getElem? hx)).1]
      rfl
    have r3 : rTwiceFunc [cFun k d u a t] = none := one_none (by simp)
    have r4 : rNoMain [cFun k d u a t] = none := by
      unfold rNoMain
      have : ([cFun k d u a t] : GProg).findIdx? (fun f => f.name == mainS) = some 0 := by simp [List.findIdx?_cons, cFun]
      rw [this]
      simp [cFun]
    have r5 : rManyParams [cFun k d u a t] = none := by
      refine one_none ?_
      unfold mpF
      rw [if_neg (by simp [cFun])]
      refine firstOf_none fun i _ y hy => firstOf_none fun j _ x hx => ?_
      have ho := ch_op h hy (List.mem_of_getElem? hx)
      have hc : ∀ o ∈ [3, 5, 12, 13, 14], callsB o = false := by decide
      unfold mpC
      rw [hc _ ho]
      rfl
    have r6 : rManyBlocks [cFun k d u a t] = none := one_none (by simp only [cFun, blks_len]; rw [if_neg (by omega)])
    have r7 : rTwiceLabel [cFun k d u a t] = none := by
      refine one_none (firstOf_none fun i _ y hy => ?_)
      unfold tlB
      rw [if_neg ?_]
      obtain ⟨hi, rfl⟩ := blks_of hy
      simp only [List.contains_iff_mem]
      intro hm
      obtain ⟨z, hz, e⟩ := List.mem_map.1 hm
      obtain ⟨j, h3, h4, rfl⟩ := take_blk hz
      have := nm_inj j (by omega) i (by omega) e
      omega
    have r8 : rManyCode [cFun k d u a t] = none := by
      have hl : (pts [cFun k d u a t]).length ≤ 60 := by
        have := ptsBlocks_le 0 (cBlks k d u a t) 0 (fun y hy => by
          obtain ⟨i, hi⟩ := List.mem_iff_getElem?.1 hy
          obtain ⟨_, rfl⟩ := blks_of hi
          exact code_len)
        rw [blks_len] at this
        simp only [pts, ptsFrom, cFun, List.append_nil]
        omega
      refine firstOf_none fun n hn x _ => ?_
      rw [if_neg (by omega)]
    have r9 : rBadInstr [cFun k d u a t] = none := find_none fun i y hy j x hx => (ch_wrong h hy (List.mem_of_getElem? hx)).2
    have r10 : rBadEnd [cFun k d u a t] = none := by
      refine one_none (firstOf_none fun i _ y hy => ?_)
      obtain ⟨hi, rfl⟩ := blks_of hy
      unfold beB
      rw [if_neg (by simp [cBlk])]
      refine firstOf_none fun j hj x hx => ?_
      unfold beC
      rw [if_neg ?_]
      have hpl : (cBlk k d u a t i).code.length = (cPre d u i).length + 1 := by simp [cBlk]
      rw [hpl] at hj ⊢
      have hx2 : (cPre d u i ++ [cEnd k a t i])[j]? = some x := hx
      by_cases hj2 : j < (cPre d u i).length
      · rw [List.getElem?_append_left hj2] at hx2
        have he : endsB x.op = false := by
          rcases pre_mem (List.mem_of_getElem? hx2) with ⟨rfl, _⟩ | ⟨rfl, _⟩ <;> decide
        rw [he]
        simp
        omega
      · have hj3 : j = (cPre d u i).length := by omega
        rw [List.getElem?_append_right (by omega), hj3] at hx2
        have hx3 : x = cEnd k a t i := by simpa using hx2.symm
        have he : endsB x.op = true := by
          rw [hx3]
          rcases end_cases k a t i with ⟨_, h1⟩ | ⟨_, _, h1⟩ | ⟨_, _, h1⟩ <;> rw [h1] <;> rfl
        rw [he, hj3]
        simp
    have hno : ∀ {o : Nat}, o ∉ [3, 5, 12, 13, 14] → ∀ {i : Nat} {y : GBlk}, (cBlks k d u a t)[i]? = some y → ∀ {j : Nat} {x : GIns}, y.code[j]? = some x → (x.op == o) = false := fun ho _ _ hy _ _ hx => by
      have := ch_op h hy (List.mem_of_getElem? hx)
      simp only [beq_eq_false_iff_ne]
      exact fun e => ho (e ▸ this)
    have r11 : rBadPhi [cFun k d u a t] = none := find_none fun i y hy j x hx => by simp only [hno (o := 6) (by decide) hy hx]; rfl
    have r12 : rNoLabel [cFun k d u a t] = none := find_none fun i y hy j x hx => by
      rw [List.any_eq_false]
      intro s hs
      obtain ⟨n, _, hn, rfl⟩ := ch_labels h hy (List.mem_of_getElem? hx) s hs
      have : ((blocksOf [cFun k d u a t] 0).any fun b => b.label == nmB n) = true := by
        rw [List.any_eq_true]
        exact ⟨_, List.mem_of_getElem? (show (blocksOf [cFun k d u a t] 0)[n]? = some (cBlk k d u a t n) from blks_at hn), by simp [cBlk]⟩
      simp only [this]
      decide
    have r13 : rNoFunc [cFun k d u a t] = none := find_none fun i y hy j x hx => by simp only [hno (o := 10) (by decide) hy hx, hno (o := 4) (by decide) hy hx]; rfl
    have r14 : rArity [cFun k d u a t] = none := find_none fun i y hy j x hx => by simp only [hno (o := 10) (by decide) hy hx]; rfl
    have r15 : rTwiceVar [cFun k d u a t] = none := by
      refine one_none ?_
      unfold tvF
      have e : firstOf (cFun k d u a t).params (tvP 0 (cFun k d u a t).params) = none := rfl
      rw [e]
      refine firstOf_none fun i _ y hy => firstOf_none fun j _ x hx => ?_
      unfold tvC
      rw [if_neg ?_]
      intro hc
      simp only [Bool.and_eq_true, Bool.not_eq_true', List.isEmpty_eq_false_iff, List.contains_iff_mem, List.mem_append] at hc
      obtain ⟨hne, hm⟩ := hc
      obtain ⟨hi, rfl⟩ := blks_of hy
      have hx0 := pre_dst hx hne
      rcases hm with (hm | hm) | hm
      · cases hm
      · unfold dstsB dstsC at hm
        obtain ⟨z, hz, hm⟩ := List.mem_flatMap.1 hm
        obtain ⟨v, hv, e⟩ := List.mem_map.1 hm
        obtain ⟨q, hq1, hq2, rfl⟩ := take_blk hz
        obtain ⟨n, hn⟩ := List.mem_iff_getElem?.1 hv
        rcases pre_dst hn (by rw [e]; exact hne) with ⟨rfl, h3, _⟩ | ⟨rfl, h3, _⟩ <;> rcases hx0 with ⟨rfl, h4, _⟩ | ⟨rfl, h4, _⟩
        · omega
        · exact absurd e (by decide)
        · exact absurd e (by decide)
        · omega
      · unfold dstsC at hm
        obtain ⟨v, hv, e⟩ := List.mem_map.1 hm
        obtain ⟨n, hn⟩ := List.mem_iff_getElem?.1 hv
        have hl := (List.getElem?_eq_some_iff.1 hn).1
        rw [List.length_take] at hl
        rw [List.getElem?_take_of_lt (by omega)] at hn
        rcases pre_dst hn (by rw [e]; exact hne) with ⟨rfl, h3, h5⟩ | ⟨rfl, h3, h5⟩ <;> rcases hx0 with ⟨rfl, h4, h6⟩ | ⟨rfl, h4, h6⟩
        · omega
        · exact absurd e (by decide)
        · exact absurd e (by decide)
        · omega
    have r16 : rNoVar [cFun k d u a t] = none := by
      refine one_none (firstOf_none fun i _ y hy => firstOf_none fun j _ x hx => ?_)
      unfold nvC
      rw [if_neg ?_]
      obtain ⟨h3, h4, h5⟩ := ch_uses h hy (List.mem_of_getElem? hx)
      have hv1 : ([] : Str) ∈ varsOf (cFun k d u a t) := by simp [varsOf]
      have hv2 : ([120] : Str) ∈ varsOf (cFun k d u a t) := by
        have := ch_x h
        simp only [varsOf, List.mem_cons, List.mem_append]
        exact .inr (.inr (.inr this))
      rw [h4, h5]
      rcases h3 with h3 | h3 <;> rw [h3] <;> simp [hv1, hv2]
    match r, h1, h2 with
    | 1, _, _ => exact r1
    | 2, _, _ => exact r2
    | 3, _, _ => exact r3
    | 4, _, _ => exact r4
    | 5, _, _ => exact r5
    | 6, _, _ => exact r6
    | 7, _, _ => exact r7
    | 8, _, _ => exact r8
    | 9, _, _ => exact r9
    | 10, _, _ => exact r10
    | 11, _, _ => exact r11
    | 12, _, _ => exact r12
    | 13, _, _ => exact r13
    | 14, _, _ => exact r14
    | 15, _, _ => exact r15
    | 16, _, _ => exact r16
    | n + 17, _, h => exact absurd h (by omega)
  rcases namesChk_cases [cFun k d u a t] with ⟨e, _⟩ | ⟨h1, h2, h3⟩
  · exact e
  · have h4 := h3.1
    rw [key _ h1 h2] at h4
    cases h4

theorem ch_row (h : ChOk k d u a t) {i : Nat} (hi : i < k) (c : Nat) : c ∈ row (succG (cBlks k d u a t)) i ↔ (c = i + 1 ∧ c < k) ∨ (i = a ∧ c = t) := by
  have hk2 := h.k2
  have ha := h.ha
  have ht := h.ht2
  unfold row succG
  rw [List.getElem?_map, blks_at hi]
  simp only [Option.map_some, Option.getD_some]
  rw [mem_formN]
  unfold rawRow
  rw [last_at]
  rcases end_cases k a t i with ⟨e, h1⟩ | ⟨e, h2, h1⟩ | ⟨e, h2, h1⟩
  · rw [h1]
    subst e
    simp only [show ¬ (12 = 14) by decide, if_false, List.map_cons, List.map_nil, lbl_at hk2 ha, lbl_at hk2 ht, Option.getD_some, List.mem_cons, List.not_mem_nil, or_false, true_and]
    omega
  · rw [h1]
    simp only [show ¬ (13 = 14) by decide, if_false, List.map_cons, List.map_nil, lbl_at hk2 h2, Option.getD_some, List.mem_cons, List.not_mem_nil, or_false]
    omega
  · rw [h1]
    simp only [if_true, List.not_mem_nil, false_iff]
    omega
theorem ch_reach (h : ChOk k d u a t) : ∀ i, i < k → Path (succG (cBlks k d u a t)) 0 i
  | 0, _ => .refl
  | i + 1, hi => .step (ch_reach h i (by omega)) ((ch_row h (by omega) _).2 (.inl ⟨rfl, hi⟩))
theorem ch_dom (h : ChOk k d u a t) : domB (succG (cBlks k d u a t)) d u = !(decide (u < d) || (decide (a < d) && decide (d < t) && decide (t ≤ u))) := by
  have hu := h.hu
  have hd := h.hd
  have ha := h.ha
  have ht := h.ht2
  -- on from b
  have on : ∀ n b, b + n < k → (∀ i, b < i → i ≤ b + n → i ≠ d) → PathAv (succG (cBlks k d u a t)) 0 d b → PathAv (succG (cBlks k d u a t)) 0 d (b + n) := by
    intro n
    induction n with
    | zero => intro b _ _ hp; exact hp
    | succ n ih =>
      intro b hb hne hp
      exact .step (ih b (by omega) (fun i h1 h2 => hne i h1 (by omega)) hp) ((ch_row h (by omega) _).2 (.inl ⟨by omega, by omega⟩)) (hne _ (by omega) (by omega))
  have inv : ∀ b, PathAv (succG (cBlks k d u a t)) 0 d b → b < k ∧ (b < d ∨ (a < d ∧ d < t ∧ t ≤ b)) := by
    intro b hp
    induction hp with
    | start h0 => exact ⟨by omega, by omega⟩
    | step _ hc hne ih =>
      obtain ⟨h1, h2⟩ := ih
      rcases (ch_row h h1 _).1 hc with ⟨e, h3⟩ | ⟨e, e2⟩
      · exact ⟨h3, by omega⟩
      · exact ⟨by omega, by omega⟩
  by_cases hb : u < d ∨ (a < d ∧ d < t ∧ t ≤ u)
  · have hp : PathAv (succG (cBlks k d u a t)) 0 d u := by
      rcases hb with hb | ⟨h1, h2, h3⟩
      · have := on u 0 (by omega) (fun i h1 h2 => by omega) (.start (by omega))
        simpa using this
      · have p1 := on a 0 (by omega) (fun i h1 h2 => by omega) (.start (by omega))
        rw [Nat.zero_add] at p1
        have p2 : PathAv (succG (cBlks k d u a t)) 0 d t := .step p1 ((ch_row h (by omega) _).2 (.inr ⟨rfl, rfl⟩)) (by omega)
        have p3 := on (u - t) t (by omega) (fun i h1 h2 => by omega) p2
        rwa [show t + (u - t) = u by omega] at p3
    have e1 : domB (succG (cBlks k d u a t)) d u = false := by
      simp only [domB, decide_eq_false_iff_not, not_and]
      intro _ hd
      exact hd hp
    rw [e1]
    rcases hb with hb | ⟨h1, h2, h3⟩ <;> simp [*]
  · have e1 : domB (succG (cBlks k d u a t)) d u = true := by
      simp only [domB, decide_eq_true_eq]
      exact ⟨ch_reach h u hu, fun hp => hb (inv u hp).2⟩
    rw [e1]
    have : ¬ u < d := fun e => hb (.inl e)
    have : ¬ (a < d ∧ d < t ∧ t ≤ u) := fun e => hb (.inr e)
    simp [*]
    omega
theorem ch_defs (h : ChOk k d u a t) : defsAt (cFun k d u a t) [120] = ((d : Int), 0) := by
  obtain ⟨q, hq⟩ := defs_some (cFun k d u a t) (s := [120]) (.inr (ch_x h))
  rw [defsAt_of hq]
  rcases defs_real _ hq with ⟨_, hp⟩ | ⟨c, y, x, hc, hy, hx, hd⟩
  · cases hp
  · obtain ⟨hi, rfl⟩ := blks_of hy
    rcases pre_dst hx (by rw [hd]; decide) with ⟨rfl, h3, h5⟩ | ⟨rfl, _, _⟩
    · obtain ⟨q1, q2⟩ := q
      simp only at hc h5
      rw [hc, h5, h3]
    · exact absurd hd (by decide)
def chBad (d u a t : Nat) : Bool := decide (u < d) || (decide (a < d) && decide (d < t) && decide (t ≤ u))
theorem ch_notDom (h : ChOk k d u a t) {i : Nat} {y : GBlk} (hy : (cBlks k d u a t)[i]? = some y) {j : Nat} {x : GIns} (hx : y.code[j]? = some x) : notDomQ (cFun k d u a t) i j x = (decide (x = cCopy) && chBad d u a t) := by
  have h6 : x.op ≠ 6 := by
    have := ch_op h hy (List.mem_of_getElem? hx)
    intro e
    rw [e] at this
    revert this
    decide
  unfold notDomQ
  rw [if_neg h6]
  obtain ⟨hi, rfl⟩ := blks_of hy
  by_cases hc : x = cCopy
  · have hp := pre_dst hx (by rw [hc]; decide)
    have hiu : i = u ∧ j = (if i = d then 1 else 0) := by
      rcases hp with ⟨e, _⟩ | ⟨_, h1, h2⟩
      · rw [hc] at e; exact absurd e (by decide)
      · exact ⟨h1, h2⟩
    obtain ⟨rfl, hj⟩ := hiu
    rw [hc, show usesL cCopy = [[120]] by decide]
    simp only [List.any_cons, List.any_nil, Bool.or_false, decide_true, Bool.true_and]
    unfold atB
    rw [ch_defs h]
    by_cases hdu : d = i
    · subst hdu
      rw [if_pos rfl] at hj
      rw [if_pos rfl, hj]
      simp [chBad]
    · rw [if_neg (by simp only []; omega)]
      unfold atEndB
      rw [ch_defs h]
      have hd := ch_dom h
      show (!((decide ([120] = nought)) || decide ((d : Int) < 0) || domB (succG (cBlks k d i a t)) (d : Int).toNat i)) = _
      rw [Int.toNat_natCast, hd]
      have e1 : decide (([120] : Str) = nought) = false := by decide
      have e2 : decide ((d : Int) < 0) = false := by simp
      rw [e1, e2]
      simp [chBad]
  · have hu : usesL x = [] := by
      have hm := code_mem (List.mem_of_getElem? hx)
      rcases hm with ⟨rfl, _⟩ | ⟨rfl, _⟩ | rfl
      · decide
      · exact absurd rfl hc
      · rcases end_cases k a t i with ⟨_, h1⟩ | ⟨_, _, h1⟩ | ⟨_, _, h1⟩ <;> rw [h1] <;> rfl
    rw [hu]
    simp [hc]
/-- What sound.Check answers. -/
theorem ch_chk (h : ChOk k d u a t) : sndChk [cFun k d u a t] = if chBad d u a t then (20, (0, u, 0)) else (0, (0, 0, 0)) := by
  have h0 : (namesChk [cFun k d u a t]).1 = 0 := by rw [ch_names h]
  have hk2 := h.k2
  have n17 : sndRule (cFun k d u a t) 17 = none := by
    refine findF_none fun b hb y hy => findC_none fun i hi x hx => ?_
    unfold entryQ
    rw [show headL (cFun k d u a t) = nmB 0 from lab_at (by have := h.k1; omega)]
    simp only [Bool.and_eq_false_imp]
    intro _
    simp only [List.contains_eq_mem, decide_eq_false_iff_not]
    intro hm
    obtain ⟨j, h1, h2, h3⟩ := ch_labels h hy (List.mem_of_getElem? hx) _ hm
    exact nm_ne h h1 h2 h3.symm
  have n18 : sndRule (cFun k d u a t) 18 = none := by
    show unreachedR _ = none
    unfold unreachedR
    rw [Option.map_eq_none_iff, List.find?_eq_none]
    intro i hi
    have : Path (succG (cFun k d u a t).blocks) 0 i := ch_reach h i (by simpa [cFun, blks_len] using hi)
    simp [reachB, this]
  have n19 : sndRule (cFun k d u a t) 19 = none := by
    refine findF_none fun b hb y hy => findC_none fun i hi x hx => ?_
    have h6 : (x.op == 6) = false := by
      have := ch_op h hy (List.mem_of_getElem? hx)
      simp only [beq_eq_false_iff_ne]
      intro e
      rw [e] at this
      revert this
      decide
    unfold phiQ
    rw [h6]
    rfl
  cases hb : chBad d u a t with
  | false =>
    have n20 : sndRule (cFun k d u a t) 20 = none := findF_none fun b _ y hy => findC_none fun i _ x hx => by rw [ch_notDom h hy hx, hb, Bool.and_false]
    have hR : ∀ r ∈ rulesL, sndR [cFun k d u a t] r = none := by
      intro r hr
      refine one_none ?_
      simp only [rulesL, List.mem_cons, List.not_mem_nil, or_false] at hr
      rcases hr with rfl | rfl | rfl | rfl
      · rw [n17]; rfl
      · rw [n18]; rfl
      · rw [n19]; rfl
      · rw [n20]; rfl
    rw [sndChk_none h0 hR, if_neg ?_]
    · simp
    have hl : ((cFun k d u a t).blocks.flatMap (·.code)).length ≤ 60 := by
      have key : ∀ (l : List GBlk), (∀ y ∈ l, y.code.length ≤ 3) → (l.flatMap (·.code)).length ≤ 3 * l.length := by
        intro l
        induction l with
        | nil => simp
        | cons y l ih =>
          intro hl
          have h1 := ih (fun z hz => hl z (List.mem_cons_of_mem _ hz))
          have h2 := hl y (by simp)
          simp only [List.flatMap_cons, List.length_append, List.length_cons]
          omega
      have := key (cBlks k d u a t) (fun y hy => by
        obtain ⟨i, hi⟩ := List.mem_iff_getElem?.1 hy
        obtain ⟨_, rfl⟩ := blks_of hi
        exact code_len)
      rw [blks_len] at this
      show (List.flatMap _ (cBlks k d u a t)).length ≤ 60
      omega
    have hf : fldF (cFun k d u a t) = 0 := by
      unfold fldF
      have : ∀ z ∈ ((cFun k d u a t).blocks.flatMap (·.code)).map fldIns, z = 0 := by
        intro z hz
        obtain ⟨x, hx, rfl⟩ := List.mem_map.1 hz
        obtain ⟨y, hy, hx⟩ := List.mem_flatMap.1 hx
        obtain ⟨i, hi⟩ := List.mem_iff_getElem?.1 hy
        have ho := ch_op h hi hx
        refine fldIns_no (fun e => ?_) (fun e => ?_) <;> rw [e] at ho <;> revert ho <;> decide
      have key : ∀ (l : List Int), (∀ z ∈ l, z = 0) → l.sum = 0 := by
        intro l
        induction l with
        | nil => simp
        | cons z l ih => intro hl; rw [List.sum_cons, hl z (by simp), ih (fun v hv => hl v (List.mem_cons_of_mem _ hv))]; rfl
      exact key _ this
    have hv : nVars [cFun k d u a t] ≤ 60 := by
      simp only [nVars, List.map_cons, List.map_nil, List.sum_cons, List.sum_nil, defVars]
      have := List.length_filter_le (fun x : GIns => !x.dst.isEmpty) ((cFun k d u a t).blocks.flatMap (·.code))
      show [].length + _ + 0 ≤ 60
      simp only [List.length_nil]
      omega
    have hg : nFlds [cFun k d u a t] = 1 := by simp [nFlds, hf]
    omega
  | true =>
    have hud : u ≠ d := by
      intro e
      subst e
      simp [chBad] at hb
      omega
    have hq : sndRule (cFun k d u a t) 20 = some (u, 0) := by
      have hx0 : (cBlk k d u a t u).code[0]? = some cCopy := by simp [cBlk, cPre, hud]
      refine findF_some (y := cBlk k d u a t u) (x := cCopy) (fun j hj y hy => findC_none fun i hi x hx => ?_) (blks_at h.hu) hx0 (fun j hj => by omega) (by rw [ch_notDom h (blks_at h.hu) hx0, hb]; decide)
      rw [ch_notDom h hy hx]
      have : x ≠ cCopy := by
        rintro rfl
        obtain ⟨_, rfl⟩ := blks_of hy
        rcases pre_dst hx (by decide) with ⟨e, _⟩ | ⟨_, e, _⟩
        · exact absurd e (by decide)
        · omega
      simp [this]
    have := sndChk_some (p := [cFun k d u a t]) (ys := [17, 18, 19]) (r := 20) (pt := (0, u, 0)) h0 ⟨[], rfl⟩ (fun r hr => by
      refine one_none ?_
      simp only [List.mem_cons, List.not_mem_nil, or_false] at hr
      rcases hr with rfl | rfl | rfl
      · rw [n17]; rfl
      · rw [n18]; rfl
      · rw [n19]; rfl) (sndR_some (fun j hj => by omega) rfl hq)
    rw [this]
    simp
end
end Go.Proofs.YtpemkbjbbcnddaaGreat

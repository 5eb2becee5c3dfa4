/- What package names has checked, as package sound needs it: plain lemmas. No condition. -/
import Derived.Test.YtiheiaaifdjpeaaGreatCSat
import Derived.Test.YtiheiaaifdjpeaaGreatCNamChk
set_option linter.unusedVariables false
set_option linter.unusedSimpArgs false
set_option linter.unusedSectionVars false
namespace Go.Proofs.YtiheiaaifdjpeaaGreat
theorem firstFrom_eq_none {α β : Type} {g : Nat → α → Option β} : ∀ {l : List α} {k : Nat}, firstFrom g k l = none → ∀ j x, l[j]? = some x → g (k + j) x = none
 | [], _, _, j, x, hj => by simp at hj
 | y :: l, k, h, j, x, hj => by
  unfold firstFrom at h
  split at h
  ·cases h
  ·rename_i he
   rcases j with _ | j
   ·simp only [List.getElem?_cons_zero, Option.some.injEq] at hj
    subst hj
    exact he
   ·have := firstFrom_eq_none h j x (by simpa using hj)
    rwa [show k + 1 + j = k + (j + 1) by omega] at this
theorem firstOf_eq_none {α β : Type} {g : Nat → α → Option β} {l : List α} (h : firstOf l g = none) {j : Nat} {x : α} (hj : l[j]? = some x) : g j x = none := by
 have := firstFrom_eq_none h j x hj
 rwa [Nat.zero_add] at this
theorem firstFrom_eq_some {α β : Type} {g : Nat → α → Option β} {b : β} : ∀ {l : List α} {k : Nat}, firstFrom g k l = some b → ∃ j x, l[j]? = some x ∧ g (k + j) x = some b ∧ ∀ i, i < j → ∀ y, l[i]? = some y → g (k + i) y = none
 | [], _, h => by simp [firstFrom] at h
 | y :: l, k, h => by
  unfold firstFrom at h
  split at h
  ·rename_i r he
   cases h
   exact ⟨0, y, rfl, he, fun i hi => absurd hi (Nat.not_lt_zero _)⟩
  ·rename_i he
   obtain ⟨j, x, h1, h2, h3⟩ := firstFrom_eq_some h
   refine ⟨j + 1, x, by simpa using h1, by rwa [show k + (j + 1) = k + 1 + j by omega], fun i hi z hz => ?_⟩
   rcases i with _ | i
   ·simp only [List.getElem?_cons_zero, Option.some.injEq] at hz
    subst hz
    exact he
   ·have := h3 i (by omega) z (by simpa using hz)
    rwa [show k + 1 + i = k + (i + 1) by omega] at this
theorem firstOf_eq_some {α β : Type} {g : Nat → α → Option β} {l : List α} {b : β} (h : firstOf l g = some b) : ∃ j x, l[j]? = some x ∧ g j x = some b ∧ ∀ i, i < j → ∀ y, l[i]? = some y → g i y = none := by
 obtain ⟨j, x, h1, h2, h3⟩ := firstFrom_eq_some h
 exact ⟨j, x, h1, by rwa [Nat.zero_add] at h2, fun i hi y hy => by have := h3 i hi y hy; rwa [Nat.zero_add] at this⟩
theorem namesChk_cases (p : GProg) : (namesChk p = (0, (0, 0, 0)) ∧ ∀ r, 1 ≤ r → r ≤ 16 → ruleAt p r = none) ∨ (1 ≤ (namesChk p).1 ∧ (namesChk p).1 ≤ 16 ∧ ruleAt p (namesChk p).1 = some (namesChk p).2 ∧ ∀ r, 1 ≤ r → r < (namesChk p).1 → ruleAt p r = none) := by
 unfold namesChk
 cases h : firstFrom (fun r _ => (ruleAt p r).map fun pt => (r, pt)) 1 (List.range 16) with
 | none =>
  left
  refine ⟨rfl, fun r h1 h2 => ?_⟩
  have := firstFrom_eq_none h (r - 1) (r - 1) (by rw [List.getElem?_range (by omega)])
  rw [show 1 + (r - 1) = r by omega] at this
  simpa using this
 | some q =>
  right
  obtain ⟨j, x, h1, h2, h3⟩ := firstFrom_eq_some h
  have hj := (List.getElem?_eq_some_iff.1 h1).1
  simp only [List.length_range] at hj
  simp only [Option.map_eq_some_iff] at h2
  obtain ⟨pt, h4, rfl⟩ := h2
  refine ⟨by simp, by simp; omega, h4, fun r hr1 hr2 => ?_⟩
  simp only [Option.getD_some] at hr2
  have := h3 (r - 1) (by omega) (r - 1) (by rw [List.getElem?_range (by omega)])
  rw [show 1 + (r - 1) = r by omega] at this
  simpa using this
theorem namesOk {p : GProg} (h : (namesChk p).1 = 0) : namesChk p = (0, (0, 0, 0)) ∧ ∀ r, 1 ≤ r → r ≤ 16 → ruleAt p r = none := by
 rcases namesChk_cases p with h1 | h1
 ·exact h1
 ·omega
def NOk (p : GProg) : Prop := ∀ r, 1 ≤ r → r ≤ 16 → ruleAt p r = none
theorem findP_none {p : GProg} {g : GPt → GIns → Bool} (h : findP p g = none) {i b k : Nat} {f : GFun} {y : GBlk} {x : GIns} (hf : p[i]? = some f) (hy : f.blocks[b]? = some y) (hx : y.code[k]? = some x) : g (i, b, k) x = false := by
 obtain ⟨n, hn, e⟩ := List.mem_iff_getElem.1 (mem_pts hf hy hx)
 have := firstOf_eq_none h (List.getElem?_eq_getElem hn)
 rw [e] at this
 simpa using this
theorem NOk.funcs {p : GProg} (h : NOk p) : 0 < p.length ∧ p.length ≤ 64 := by
 have := h 1 (by omega) (by omega)
 simp only [ruleAt, rManyFuncs] at this
 split at this
 ·cases this
 ·omega
theorem NOk.blocks {p : GProg} (h : NOk p) {i : Nat} {f : GFun} (hf : p[i]? = some f) : 0 < f.blocks.length ∧ f.blocks.length ≤ 64 := by
 have := firstOf_eq_none (show rManyBlocks p = none from h 6 (by omega) (by omega)) hf
 split at this
 ·cases this
 ·omega
theorem NOk.params {p : GProg} (h : NOk p) {i : Nat} {f : GFun} (hf : p[i]? = some f) : f.params.length ≤ 8 := by
 have := firstOf_eq_none (h 5 (by omega) (by omega)) hf
 unfold mpF at this
 split at this
 ·cases this
 ·omega
theorem ptsCode_length (f b : Nat) : ∀ (l : List GIns) (k : Nat), (ptsCode f b k l).length = l.length
 | [], _ => rfl
 | x :: l, k => by simp [ptsCode, ptsCode_length f b l (k + 1)]
theorem NOk.codes {p : GProg} (h : NOk p) : (pts p).length ≤ 4096 := by
 refine Nat.le_of_not_lt fun hn => ?_
 have := firstOf_eq_none (h 8 (by omega) (by omega)) (List.getElem?_eq_getElem hn)
 simp at this
theorem NOk.code {p : GProg} (h : NOk p) {i b : Nat} {f : GFun} {y : GBlk} (hf : p[i]? = some f) (hy : f.blocks[b]? = some y) : y.code.length ≤ 4096 := by
 have h1 := h.codes
 by_cases h0 : y.code.length = 0
 ·omega
 ·have hx : y.code[y.code.length - 1]? = some y.code[y.code.length - 1] := List.getElem?_eq_getElem (by omega)
  have := (ptsTo_prefix hf hy hx).length_le
  simp only [ptsTo3, List.length_append, ptsCode_length, List.length_take, List.length_singleton] at this
  omega
theorem NOk.ends {p : GProg} (h : NOk p) {i b : Nat} {f : GFun} {y : GBlk} (hf : p[i]? = some f) (hy : f.blocks[b]? = some y) : y.code ≠ [] ∧ ∀ k x, y.code[k]? = some x → endsB x.op = decide (k + 1 = y.code.length) := by
 have h1 := firstOf_eq_none (h 10 (by omega) (by omega)) hf
 have h2 := firstOf_eq_none (show firstOf f.blocks (beB i) = none from h1) hy
 unfold beB at h2
 split at h2
 ·cases h2
 ·rename_i h0
  refine ⟨fun e => h0 (by rw [e]; rfl), fun k x hx => ?_⟩
  have h3 := firstOf_eq_none h2 hx
  unfold beC at h3
  split at h3
  ·cases h3
  ·rename_i h4
   simpa using h4
theorem NOk.ins {p : GProg} (h : NOk p) {i b k : Nat} {f : GFun} {y : GBlk} {x : GIns} (hf : p[i]? = some f) (hy : f.blocks[b]? = some y) (hx : y.code[k]? = some x) : badIns x = false := findP_none (show rBadInstr p = none from h 9 (by omega) (by omega)) hf hy hx
theorem blocksOf_of {p : GProg} {i : Nat} {f : GFun} (hf : p[i]? = some f) : blocksOf p i = f.blocks := by simp [blocksOf, hf]
theorem NOk.labels {p : GProg} (h : NOk p) {i b k : Nat} {f : GFun} {y : GBlk} {x : GIns} (hf : p[i]? = some f) (hy : f.blocks[b]? = some y) (hx : y.code[k]? = some x) : ∀ s ∈ x.labels, ∃ j, lblIdx f.blocks s = some j := by
 have h1 := findP_none (show rNoLabel p = none from h 12 (by omega) (by omega)) hf hy hx
 simp only [List.any_eq_false, blocksOf_of hf, Bool.not_eq_true', Bool.not_eq_false] at h1
 intro s hs
 have h2 := h1 s hs
 simp only [Classical.not_forall, Classical.not_not] at h2
 obtain ⟨z, hz, e⟩ := h2
 have := lblIdx_some hz
 rwa [eq_of_beq e] at this
theorem NOk.phi {p : GProg} (h : NOk p) {i b k : Nat} {f : GFun} {y : GBlk} {x : GIns} (hf : p[i]? = some f) (hy : f.blocks[b]? = some y) (hx : y.code[k]? = some x) (h6 : x.op = 6) : x.args.length = x.labels.length := by
 have h1 := h.ins hf hy hx
 unfold badIns badNums at h1
 rw [h6] at h1
 simp only [Bool.or_eq_false_iff] at h1
 have := h1.2
 simp only [show ¬((6 : Nat) = 1 ∨ 6 = 2) by omega, show ¬((6 : Nat) = 7) by omega, if_true, if_false, Bool.or_eq_false_iff, Bool.not_eq_false', beq_iff_eq] at this
 exact this.2
theorem NOk.flds {p : GProg} (h : NOk p) {i b k : Nat} {f : GFun} {y : GBlk} {x : GIns} (hf : p[i]? = some f) (hy : f.blocks[b]? = some y) (hx : y.code[k]? = some x) : 0 ≤ fldIns x ∧ fldIns x ≤ 64 := by
 unfold fldIns
 split
 ·rename_i h12
  have h1 := h.ins hf hy hx
  unfold badIns badNums at h1
  simp only [Bool.or_eq_false_iff] at h1
  have := h1.2
  rw [if_pos h12] at this
  simp at this
  omega
 ·omega
theorem lastIns_at {y : GBlk} (h : y.code ≠ []) : y.code[y.code.length - 1]? = some (lastIns y) := by
 have hp := List.length_pos_iff.2 h
 have e : y.code[y.code.length - 1]? = some y.code[y.code.length - 1] := List.getElem?_eq_getElem (by omega)
 rw [e]
 unfold lastIns
 rw [List.getLastD_eq_getLast?, List.getLast?_eq_getElem?, e]
 rfl
theorem NOk.fok {p : GProg} (h : NOk p) {i : Nat} {f : GFun} (hf : p[i]? = some f) : FOk f := by
 have hb := h.blocks hf
 have key : ∀ y ∈ f.blocks, ∃ b, f.blocks[b]? = some y := fun y hy => by
  obtain ⟨b, hb, e⟩ := List.mem_iff_getElem.1 hy
  exact ⟨b, by rw [List.getElem?_eq_getElem hb, e]⟩
 have keyx : ∀ y : GBlk, ∀ x ∈ y.code, ∃ k, y.code[k]? = some x := fun y x hx => by
  obtain ⟨b, hb, e⟩ := List.mem_iff_getElem.1 hx
  exact ⟨b, by rw [List.getElem?_eq_getElem hb, e]⟩
 refine ⟨⟨by omega, fun y hy => ?_, fun y hy => ?_, fun y hy hn s hs => ?_⟩, fun e => by rw [e] at hb; simp at hb, fun y hy => ?_, fun y hy x hx h6 => ?_, fun y hy x hx => ?_⟩
 ·obtain ⟨b, hy⟩ := key y hy
  exact (h.ends hf hy).1
 ·obtain ⟨b, hy⟩ := key y hy
  obtain ⟨h1, h2⟩ := h.ends hf hy
  have h3 := h2 _ _ (lastIns_at h1)
  have hp := List.length_pos_iff.2 h1
  rw [decide_eq_true (show y.code.length - 1 + 1 = y.code.length by omega)] at h3
  unfold endsB at h3
  simpa [or_assoc] using h3
 ·obtain ⟨b, hy⟩ := key y hy
  exact h.labels hf hy (lastIns_at (h.ends hf hy).1) s hs
 ·obtain ⟨b, hy⟩ := key y hy
  exact h.code hf hy
 ·obtain ⟨b, hy⟩ := key y hy
  obtain ⟨k, hx⟩ := keyx y x hx
  exact h.phi hf hy hx h6
 ·obtain ⟨b, hy⟩ := key y hy
  obtain ⟨k, hx⟩ := keyx y x hx
  exact h.labels hf hy hx
def cntC (l : List GIns) : Nat := (l.filter fun x => !x.dst.isEmpty).length
def fldC (l : List GIns) : Int := (l.map fldIns).sum
def varsTo (p : GProg) (k : Nat) : Nat := ((p.take k).map defVars).sum
def fldsTo (p : GProg) (k : Nat) : Int := p.length + ((p.take k).map fldF).sum
def codeTo (f : GFun) (j : Nat) : List GIns := (f.blocks.take j).flatMap (·.code)
theorem cntC_le (l : List GIns) : cntC l ≤ l.length := List.length_filter_le _ _
theorem cntC_append (l l' : List GIns) : cntC (l ++ l') = cntC l + cntC l' := by simp [cntC]
theorem fldC_append (l l' : List GIns) : fldC (l ++ l') = fldC l + fldC l' := by simp [fldC]
theorem varsTo_zero (p : GProg) : varsTo p 0 = 0 := by simp [varsTo]
theorem fldsTo_zero (p : GProg) : fldsTo p 0 = p.length := by simp [fldsTo]
theorem varsTo_succ {p : GProg} {k : Nat} {f : GFun} (h : p[k]? = some f) : varsTo p (k + 1) = varsTo p k + (f.params.length + cntC (codeTo f f.blocks.length)) := by
 have : p.take (k + 1) = p.take k ++ [f] := by rw [List.take_add_one, h]; rfl
 simp [varsTo, this, defVars, cntC, codeTo]
theorem fldsTo_succ {p : GProg} {k : Nat} {f : GFun} (h : p[k]? = some f) : fldsTo p (k + 1) = fldsTo p k + fldC (codeTo f f.blocks.length) := by
 have : p.take (k + 1) = p.take k ++ [f] := by rw [List.take_add_one, h]; rfl
 simp [fldsTo, this, fldF, fldC, codeTo]
 omega
theorem varsTo_all (p : GProg) : varsTo p p.length = nVars p := by simp [varsTo, nVars]
theorem fldsTo_all (p : GProg) : fldsTo p p.length = nFlds p := by simp [fldsTo, nFlds]
theorem codeTo_zero (f : GFun) : codeTo f 0 = [] := by simp [codeTo]
theorem codeTo_succ {f : GFun} {j : Nat} {y : GBlk} (h : f.blocks[j]? = some y) : codeTo f (j + 1) = codeTo f j ++ y.code := by
 have : f.blocks.take (j + 1) = f.blocks.take j ++ [y] := by rw [List.take_add_one, h]; rfl
 simp [codeTo, this]
theorem codeTo_len {f : GFun} (h : ∀ y ∈ f.blocks, y.code.length ≤ 4096) : ∀ j, (codeTo f j).length ≤ j * 4096 := by
 intro j
 induction j with
 | zero => simp [codeTo]
 | succ j ih =>
  cases hy : f.blocks[j]? with
  | none =>
   have : f.blocks.take (j + 1) = f.blocks.take j := by rw [List.take_add_one, hy]; simp
   have e : codeTo f (j + 1) = codeTo f j := by unfold codeTo; rw [this]
   rw [e]
   exact Nat.le_trans ih (Nat.mul_le_mul_right _ (Nat.le_succ _))
  | some y =>
   rw [codeTo_succ hy, List.length_append]
   have := h y (List.mem_of_getElem? hy)
   have e : (j + 1) * 4096 = j * 4096 + 4096 := Nat.succ_mul j 4096
   rw [e]
   exact Nat.add_le_add ih this
theorem fldC_bound {l : List GIns} (h : ∀ x ∈ l, 0 ≤ fldIns x ∧ fldIns x ≤ 64) : 0 ≤ fldC l ∧ fldC l ≤ l.length * 64 := by
 induction l with
 | nil => simp [fldC]
 | cons x l ih =>
  have h1 := ih fun y hy => h y (List.mem_cons_of_mem _ hy)
  have h2 := h x (List.mem_cons_self ..)
  have e : fldC (x :: l) = fldIns x + fldC l := by simp [fldC]
  rw [e, List.length_cons]
  omega
theorem NOk.codeFld {p : GProg} (h : NOk p) {i : Nat} {f : GFun} (hf : p[i]? = some f) (j : Nat) : ∀ x ∈ codeTo f j, 0 ≤ fldIns x ∧ fldIns x ≤ 64 := by
 intro x hx
 unfold codeTo at hx
 obtain ⟨y, hy, hx⟩ := List.mem_flatMap.1 hx
 obtain ⟨b, hb, e⟩ := List.mem_iff_getElem.1 (List.mem_of_mem_take hy)
 obtain ⟨k, hk, e2⟩ := List.mem_iff_getElem.1 hx
 exact h.flds hf (show f.blocks[b]? = some y by rw [List.getElem?_eq_getElem hb, e]) (show y.code[k]? = some x by rw [List.getElem?_eq_getElem hk, e2])
theorem NOk.varsB {p : GProg} (h : NOk p) : ∀ k, k ≤ p.length → varsTo p k ≤ k * 300000 := by
 intro k
 induction k with
 | zero => intro _; simp [varsTo]
 | succ k ih =>
  intro hk
  have hf : p[k]? = some p[k] := List.getElem?_eq_getElem hk
  have h1 := ih (by omega)
  have h2 := h.params hf
  have h3 := codeTo_len (h.fok hf).code p[k].blocks.length
  have h4 := h.blocks hf
  have h5 := cntC_le (codeTo p[k] p[k].blocks.length)
  rw [varsTo_succ hf]
  omega
theorem NOk.fldsB {p : GProg} (h : NOk p) : ∀ k, k ≤ p.length → 0 ≤ fldsTo p k ∧ fldsTo p k ≤ 64 + k * 20000000 := by
 intro k
 induction k with
 | zero =>
  intro _
  have := h.funcs
  rw [fldsTo_zero]
  omega
 | succ k ih =>
  intro hk
  have hf : p[k]? = some p[k] := List.getElem?_eq_getElem hk
  have h1 := ih (by omega)
  have h3 := codeTo_len (h.fok hf).code p[k].blocks.length
  have h4 := h.blocks hf
  have h5 := fldC_bound (h.codeFld hf p[k].blocks.length)
  rw [fldsTo_succ hf]
  omega
theorem cnt_more {pre l : List GIns} {i : Nat} {z : GIns} (h : l[i]? = some z) : cntC (pre ++ l.take (i + 1)) = cntC (pre ++ l.take i) + (if z.dst.isEmpty then 0 else 1) := by
 have e : l.take (i + 1) = l.take i ++ [z] := by rw [List.take_add_one, h]; rfl
 rw [e, ← List.append_assoc, cntC_append]
 congr 1
 unfold cntC
 cases hz : z.dst.isEmpty <;> simp [hz]
theorem fld_more {pre l : List GIns} {i : Nat} {z : GIns} (h : l[i]? = some z) : fldC (pre ++ l.take (i + 1)) = fldC (pre ++ l.take i) + fldIns z := by
 have e : l.take (i + 1) = l.take i ++ [z] := by rw [List.take_add_one, h]; rfl
 rw [e, ← List.append_assoc, fldC_append]
 congr 1
 simp [fldC]
theorem NOk.partB {p : GProg} (h : NOk p) {k : Nat} {f : GFun} (hf : p[k]? = some f) {j : Nat} {y : GBlk} (hy : f.blocks[j]? = some y) (i : Nat) :
  cntC (codeTo f j ++ y.code.take i) ≤ 300000 ∧ 0 ≤ fldC (codeTo f j ++ y.code.take i) ∧ fldC (codeTo f j ++ y.code.take i) ≤ 20000000 := by
 have h1 := codeTo_len (h.fok hf).code j
 have h2 := (h.blocks hf).2
 have h3 : j < f.blocks.length := (List.getElem?_eq_some_iff.1 hy).1
 have h4 := h.code hf hy
 have h5 : (codeTo f j ++ y.code.take i).length ≤ 270000 := by
  rw [List.length_append, List.length_take]
  have : j * 4096 ≤ 64 * 4096 := Nat.mul_le_mul_right _ (by omega)
  omega
 have h6 := cntC_le (codeTo f j ++ y.code.take i)
 have h7 := fldC_bound (l := codeTo f j ++ y.code.take i) (fun x hx => h.codeFld hf (j + 1) x (by
  rw [codeTo_succ hy]
  rcases List.mem_append.1 hx with hx | hx
  ·exact List.mem_append_left _ hx
  ·exact List.mem_append_right _ (List.mem_of_mem_take hx)))
 omega
theorem fldIns_no {z : GIns} (h1 : z.op ≠ 1) (h2 : z.op ≠ 2) : fldIns z = 0 := by
 unfold fldIns; rw [if_neg (by omega)]
theorem fldIns_yes {z : GIns} (h : z.op = 1 ∨ z.op = 2) : fldIns z = z.n := by
 unfold fldIns; rw [if_pos h]
end Go.Proofs.YtiheiaaifdjpeaaGreat

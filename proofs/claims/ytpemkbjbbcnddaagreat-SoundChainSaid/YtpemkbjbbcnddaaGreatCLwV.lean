/- On every walk what is used was defined ahead: plain lemmas on functions in which sound.Check finds nothing wrong. No condition. -/
import Derived.Test.YtpemkbjbbcnddaaGreatCLw
import Derived.Test.YtpemkbjbbcnddaaGreatCDomD
set_option linter.unusedVariables false
set_option linter.unusedSimpArgs false
set_option linter.unusedSectionVars false
namespace Go.Proofs.YtpemkbjbbcnddaaGreat

/-- What a definition's place says. -/
def PlReal (f : GFun) (s : Str) (p : Int × Nat) : Prop := (p.1 = -1 ∧ s ∈ f.params) ∨ ∃ (c : Nat) (y : GBlk) (x : GIns), p.1 = c ∧ f.blocks[c]? = some y ∧ y.code[p.2]? = some x ∧ x.dst = s
theorem defPar_real (f : GFun) : ∀ (k : Nat) (s : Str) (q : Int × Nat), k ≤ f.params.length → aget (defPar (f.params.take k)) s = some q → PlReal f s q := by
  intro k
  induction k with
  | zero => intro s q _ h; simp [defPar, aget] at h
  | succ k ih =>
    intro s q hk h
    rw [defPar_more (List.getElem?_eq_getElem hk), aget_set] at h
    split at h
    · rename_i e
      cases h
      exact .inl ⟨rfl, by rw [eq_of_beq e]; exact List.getElem_mem hk⟩
    · exact ih s q (by omega) h
theorem defs_real (f : GFun) {s : Str} {q : Int × Nat} (h : aget (defsF f) s = some q) : PlReal f s q := by
  have inner : ∀ (b : Nat) (y : GBlk) (m : Defs), f.blocks[b]? = some y → (∀ s q, aget m s = some q → PlReal f s q) → ∀ i, i ≤ y.code.length → ∀ s q, aget (defCode b (y.code.take i) m) s = some q → PlReal f s q := by
    intro b y m hy hm i
    induction i with
    | zero => intro _ s q h; exact hm s q (by simpa [defCode] using h)
    | succ i ih =>
      intro hi s q h
      rw [defCode_more (List.getElem?_eq_getElem hi), aget_set] at h
      split at h
      · rename_i e
        cases h
        exact .inr ⟨b, y, y.code[i], rfl, hy, List.getElem?_eq_getElem hi, (eq_of_beq e).symm⟩
      · exact ih (by omega) s q h
  have outer : ∀ k, k ≤ f.blocks.length → ∀ s q, aget (defBlks (f.blocks.take k) (defPar f.params)) s = some q → PlReal f s q := by
    intro k
    induction k with
    | zero =>
      intro _ s q h
      refine defPar_real f f.params.length s q (Nat.le_refl _) ?_
      rw [List.take_length]
      simpa [defBlks] using h
    | succ k ih =>
      intro hk s q h
      rw [defBlks_more (List.getElem?_eq_getElem hk)] at h
      have := inner k f.blocks[k] _ (List.getElem?_eq_getElem hk) (ih (by omega)) f.blocks[k].code.length (Nat.le_refl _) s q
      rw [List.take_length] at this
      exact this h
  have := outer f.blocks.length (Nat.le_refl _) s q
  rw [List.take_length] at this
  exact this h
theorem aset_keeps {m : Defs} {t s : Str} {p : Int × Nat} (h : ∃ q, aget m s = some q) : ∃ q, aget (aset m t p) s = some q := by
  rw [aget_set]
  split
  · exact ⟨_, rfl⟩
  · exact h
theorem defCode_keeps {b : Nat} {s : Str} : ∀ (l : List GIns) (k : Nat) (m : Defs), (∃ q, aget m s = some q) → ∃ q, aget ((l.zipIdx k).foldl (fun m p => aset m p.1.dst ((b : Int), p.2)) m) s = some q := by
  intro l
  induction l with
  | nil => intro k m h; exact h
  | cons x l ih => intro k m h; rw [List.zipIdx_cons, List.foldl_cons]; exact ih _ _ (aset_keeps h)
theorem defCode_has {b : Nat} {x : GIns} : ∀ (l : List GIns) (k : Nat) (m : Defs), x ∈ l → ∃ q, aget ((l.zipIdx k).foldl (fun m p => aset m p.1.dst ((b : Int), p.2)) m) x.dst = some q := by
  intro l
  induction l with
  | nil => intro k m h; cases h
  | cons y l ih =>
    intro k m h
    rw [List.zipIdx_cons, List.foldl_cons]
    rcases List.mem_cons.1 h with rfl | h
    · exact defCode_keeps l _ _ ⟨_, by rw [aget_set, if_pos (by simp)]⟩
    · exact ih _ _ h
theorem defBlks_keeps {s : Str} : ∀ (l : List GBlk) (k : Nat) (m : Defs), (∃ q, aget m s = some q) → ∃ q, aget ((l.zipIdx k).foldl (fun m p => defCode p.2 p.1.code m) m) s = some q := by
  intro l
  induction l with
  | nil => intro k m h; exact h
  | cons x l ih => intro k m h; rw [List.zipIdx_cons, List.foldl_cons]; exact ih _ _ (defCode_keeps _ _ _ h)
theorem defBlks_has {x : GIns} : ∀ (l : List GBlk) (k : Nat) (m : Defs), (∃ y ∈ l, x ∈ y.code) → ∃ q, aget ((l.zipIdx k).foldl (fun m p => defCode p.2 p.1.code m) m) x.dst = some q := by
  intro l
  induction l with
  | nil => rintro k m ⟨y, h, _⟩; cases h
  | cons z l ih =>
    rintro k m ⟨y, h, hx⟩
    rw [List.zipIdx_cons, List.foldl_cons]
    rcases List.mem_cons.1 h with rfl | h
    · exact defBlks_keeps l _ _ (defCode_has _ _ _ hx)
    · exact ih _ _ ⟨y, h, hx⟩
theorem defPar_has {s : Str} : ∀ (l : List Str) (m : Defs), (s ∈ l ∨ ∃ q, aget m s = some q) → ∃ q, aget (l.foldl (fun m s => aset m s (-1, 0)) m) s = some q := by
  intro l
  induction l with
  | nil =>
    rintro m (h | h)
    · cases h
    · exact h
  | cons t l ih =>
    rintro m (h | h)
    · rcases List.mem_cons.1 h with rfl | h
      · exact ih _ (.inr ⟨_, by rw [aget_set, if_pos (by simp)]⟩)
      · exact ih _ (.inl h)
    · exact ih _ (.inr (aset_keeps h))
/-- What may be used has a place. -/
theorem defs_some (f : GFun) {s : Str} (h : s ∈ f.params ∨ s ∈ dstsB f.blocks) : ∃ q, aget (defsF f) s = some q := by
  rcases h with h | h
  · exact defBlks_keeps f.blocks 0 _ (defPar_has f.params [] (.inl h))
  · unfold dstsB dstsC at h
    obtain ⟨y, hy, h⟩ := List.mem_flatMap.1 h
    obtain ⟨x, hx, rfl⟩ := List.mem_map.1 h
    exact defBlks_has f.blocks 0 _ ⟨y, hy, hx⟩

/-- On a walk: the blocks that were met ahead; the one at hand. -/
structure OnWalk (f : GFun) (vs : List Nat) (k : Nat) : Prop where
  av : ∀ d, d ∉ vs → d ≠ k → PathAv (succG f.blocks) 0 d k
  lt : k < f.blocks.length
theorem OnWalk.start (f : GFun) (h : 0 < f.blocks.length) : OnWalk f [] 0 := ⟨fun d _ hd => .start (fun e => hd e.symm), h⟩
theorem OnWalk.next {f : GFun} {vs : List Nat} {k c : Nat} (h : OnWalk f vs k) (hc : c ∈ row (succG f.blocks) k) (hl : c < f.blocks.length) : OnWalk f (vs ++ [k]) c where
  av := fun d hd hne => by
    have h1 : d ∉ vs := fun e => hd (List.mem_append_left _ e)
    have h2 : d ≠ k := fun e => hd (by simp [e])
    exact .step (h.av d h1 h2) hc (fun e => hne e.symm)
  lt := hl
/-- What is defined by blocks that were met. -/
def Defd (f : GFun) (vs : List Nat) (D : Str → Prop) : Prop := D nought ∧ (∀ s ∈ f.params, D s) ∧ ∀ v ∈ vs, ∀ y, f.blocks[v]? = some y → ∀ x ∈ y.code, x.dst ≠ [] → D x.dst
theorem defsAt_of {f : GFun} {s : Str} {q : Int × Nat} (h : aget (defsF f) s = some q) : defsAt f s = q := by unfold defsAt; rw [h]; rfl
theorem domB_iff {g : Gph} {a b : Nat} : domB g a b = true ↔ Path g 0 b ∧ DomBy g 0 a b := by simp only [domB, decide_eq_true_eq]
/-- What is there at the end of a block that was met, was defined. -/
theorem atEnd_def {f : GFun} {vs : List Nat} {k : Nat} {D : Str → Prop} {s : Str} (hw : ∀ d, d ∉ vs → PathAv (succG f.blocks) 0 d k) (hD : Defd f vs D) (hs : s ≠ []) (hq : ∃ q, aget (defsF f) s = some q) (h : atEndB f s k = true) : D s := by
  obtain ⟨q, hq⟩ := hq
  unfold atEndB at h
  rw [defsAt_of hq] at h
  by_cases hn : s = nought
  · rw [hn]; exact hD.1
  · rcases defs_real f hq with ⟨_, hp⟩ | ⟨c, y, x, hc, hy, hx, hd⟩
    · exact hD.2.1 s hp
    · have h1 : ¬ q.1 < 0 := by omega
      have h2 : q.1.toNat = c := by omega
      rw [h2] at h
      have h3 : domB (succG f.blocks) c k = true := by
        simpa [hn, h1] using h
      rw [domB_iff] at h3
      have hcv : c ∈ vs := Classical.byContradiction fun e => h3.2 (hw c e)
      have := hD.2.2 c hcv y hy x (List.mem_of_getElem? hx) (by rw [hd]; exact hs)
      rwa [hd] at this
/-- An instruction that is no phi uses what was defined. -/
theorem use_def {p : GProg} (hN : NOk p) (hS : SOk p) {i : Nat} {f : GFun} (hf : p[i]? = some f) {vs : List Nat} {k j : Nat} {y : GBlk} {x : GIns} {D : Str → Prop} (hW : OnWalk f vs k) (hD : Defd f vs D)
    (hy : f.blocks[k]? = some y) (hx : y.code[j]? = some x) (h6 : x.op ≠ 6) (hcode : ∀ z ∈ y.code.take j, z.dst ≠ [] → D z.dst) : ∀ s ∈ usesL x, D s := by
  intro s hs
  obtain ⟨hm, hne⟩ := List.mem_filter.1 hs
  have hs0 : s ≠ [] := fun e => by rw [e] at hne; simp at hne
  have hsn : s ≠ nought := fun e => by rw [e] at hne; simp at hne
  have h1 : findF f (notDomQ f) = none := hS.rule (r := 20) (by decide) hf
  have h2 := findF_eq_none h1 hy hx
  unfold notDomQ at h2
  rw [if_neg h6, List.any_eq_false] at h2
  have h3 := h2 s hs
  simp only [Bool.not_eq_true', Bool.not_eq_false] at h3
  have h4 := firstOf_eq_none (show rNoVar p = none from hN 16 (by omega) (by omega)) hf
  have h5 := firstOf_eq_none (firstOf_eq_none (show firstOf f.blocks (nvB (varsOf f) i) = none from h4) hy) hx
  unfold nvC at h5
  split at h5
  · cases h5
  · rename_i h7
    have h8 : s ∈ varsOf f := by
      have h9 : ((x.a :: x.b :: x.args).any fun s => !(varsOf f).contains s) = false := by simpa using h7
      have h10 := List.any_eq_false.1 h9 s hm
      simpa using h10
    simp only [varsOf, List.mem_cons, List.mem_append] at h8
    have hq : ∃ q, aget (defsF f) s = some q := by
      rcases h8 with h8 | h8 | h8
      · exact absurd h8 hs0
      · exact absurd h8 hsn
      · exact defs_some f h8
    obtain ⟨q, hq⟩ := hq
    unfold atB at h3
    rw [defsAt_of hq] at h3
    by_cases hk : q.1 = k
    · rw [if_pos hk, decide_eq_true_eq] at h3
      rcases defs_real f hq with ⟨h9, hp⟩ | ⟨c, y', x', hc, hy', hx', hd⟩
      · exact hD.2.1 s hp
      · have hck : c = k := by omega
        subst hck
        rw [hy] at hy'
        cases hy'
        have : x' ∈ y.code.take j := by
          rw [List.mem_iff_getElem?]
          exact ⟨q.2, by rw [List.getElem?_take_of_lt h3]; exact hx'⟩
        have := hcode x' this (by rw [hd]; exact hs0)
        rwa [hd] at this
    · rw [if_neg hk] at h3
      -- the definition is in another block, met ahead
      rcases defs_real f hq with ⟨h9, hp⟩ | ⟨c, y', x', hc, hy', hx', hd⟩
      · exact hD.2.1 s hp
      · unfold atEndB at h3
        rw [defsAt_of hq] at h3
        have h1 : ¬ q.1 < 0 := by omega
        have h2 : q.1.toNat = c := by omega
        rw [h2] at h3
        have h10 : domB (succG f.blocks) c k = true := by simpa [hsn, h1] using h3
        rw [domB_iff] at h10
        have hcv : c ∈ vs := Classical.byContradiction fun e => h10.2 (hW.av c e (fun e2 => hk (by rw [hc, e2])))
        have := hD.2.2 c hcv y' hy' x' (List.mem_of_getElem? hx') (by rw [hd]; exact hs0)
        rwa [hd] at this

theorem lab_inj {p : GProg} (hN : NOk p) {i : Nat} {f : GFun} (hf : p[i]? = some f) {a b : Nat} (ha : a < f.blocks.length) (hb : b < f.blocks.length) (h : labAt f.blocks a = labAt f.blocks b) : a = b := by
  have key : ∀ a b, a < b → b < f.blocks.length → labAt f.blocks a ≠ labAt f.blocks b := by
    intro a b hab hb e
    have hy : f.blocks[b]? = some f.blocks[b] := List.getElem?_eq_getElem hb
    have h1 := firstOf_eq_none (show rTwiceLabel p = none from hN 7 (by omega) (by omega)) hf
    have h2 := firstOf_eq_none (show firstOf f.blocks (tlB i f.blocks) = none from h1) hy
    unfold tlB at h2
    have ha : f.blocks[a]? = some f.blocks[a] := List.getElem?_eq_getElem (by omega)
    have hm : f.blocks[b].label ∈ (f.blocks.take b).map (·.label) := by
      have e2 : f.blocks[a].label = f.blocks[b].label := by simpa [labAt, ha, hy] using e
      rw [← e2]
      refine List.mem_map.2 ⟨f.blocks[a], ?_, rfl⟩
      rw [List.mem_iff_getElem?]
      exact ⟨a, by rw [List.getElem?_take_of_lt hab]; exact ha⟩
    rw [if_pos (by simpa using hm)] at h2
    cases h2
  rcases Nat.lt_trichotomy a b with h1 | h1 | h1
  · exact absurd h (key a b h1 hb)
  · exact h1
  · exact absurd h.symm (key b a h1 ha)
theorem count_one {l : List Nat} (h : l.Pairwise (· < ·)) {a : Nat} (ha : a ∈ l) : l.countP (fun x => x == a) = 1 := by
  induction l with
  | nil => cases ha
  | cons x l ih =>
    obtain ⟨h1, h2⟩ := List.pairwise_cons.1 h
    rw [List.countP_cons]
    rcases List.mem_cons.1 ha with rfl | ha
    · have : l.countP (fun x => x == a) = 0 := by
        rw [List.countP_eq_zero]
        intro y hy
        have := h1 y hy
        simp
        omega
      rw [this]
      simp
    · have hne : ¬ x = a := by have := h1 a ha; omega
      rw [ih h2 ha]
      simp [hne]
/-- A phi has just one argument for the way by which its block was come to, and that was defined then. -/
theorem phi_def {p : GProg} (hN : NOk p) (hS : SOk p) {i : Nat} {f : GFun} (hf : p[i]? = some f) {vs : List Nat} {fr k j : Nat} {y : GBlk} {x : GIns} {D : Str → Prop} (hfr : fr ∈ vs) (hfl : fr < f.blocks.length)
    (hw : ∀ d, d ∉ vs → PathAv (succG f.blocks) 0 d fr) (hD : Defd f vs D) (hk : k ∈ row (succG f.blocks) fr) (hy : f.blocks[k]? = some y) (hx : y.code[j]? = some x) (h6 : x.op = 6) :
    (x.labels.countP fun s => s == labAt f.blocks fr) = 1 ∧ ∀ (q : Nat) (a : Str), x.labels[q]? = some (labAt f.blocks fr) → x.args[q]? = some a → D a := by
  have hgl : (succG f.blocks).length = f.blocks.length := succG_length _
  have hkl : k < f.blocks.length := (List.getElem?_eq_some_iff.1 hy).1
  constructor
  · have h1 : findF f (phiQ f) = none := hS.rule (r := 19) (by decide) hf
    have h2 := findF_eq_none h1 hy hx
    unfold phiQ at h2
    rw [h6] at h2
    have h3 : sortS (wantL f k) = sortS x.labels := by simpa using h2
    have hp : (wantL f k).Perm x.labels := ((List.mergeSort_perm _ _).symm.trans (by unfold sortS at h3; rw [h3])).trans (List.mergeSort_perm _ _)
    rw [← hp.countP_eq]
    have hw2 : wantL f k = (row (backG (succG f.blocks)) k).map (labAt f.blocks) := rfl
    rw [hw2, List.countP_map]
    have hrow := ((GOk.back (succG f.blocks) (by rw [hgl]; exact (hN.fok hf).of.len)).row k)
    have hmem : ∀ q, q ∈ row (backG (succG f.blocks)) k ↔ q < f.blocks.length ∧ k ∈ row (succG f.blocks) q := fun q => by
      have := mem_backG (g := succG f.blocks) (k := k) (i := q) (by rw [hgl]; exact hkl)
      rwa [hgl] at this
    have e : (row (backG (succG f.blocks)) k).countP ((fun s => s == labAt f.blocks fr) ∘ labAt f.blocks) = (row (backG (succG f.blocks)) k).countP (fun q => q == fr) := by
      refine List.countP_congr fun q hq => ?_
      have hq2 := ((hmem q).1 hq).1
      simp only [Function.comp_apply, beq_iff_eq]
      exact ⟨fun e => lab_inj hN hf hq2 hfl e, fun e => by rw [e]⟩
    rw [e]
    exact count_one hrow.1 ((hmem fr).2 ⟨hfl, hk⟩)
  · intro q a hq ha
    have h1 : findF f (notDomQ f) = none := hS.rule (r := 20) (by decide) hf
    have h2 := findF_eq_none h1 hy hx
    unfold notDomQ at h2
    rw [if_pos h6] at h2
    unfold phiBad at h2
    rw [List.any_eq_false] at h2
    have hql := (List.getElem?_eq_some_iff.1 ha).1
    have h3 := h2 q (by simpa using hql)
    rw [ha, hq] at h3
    simp only [Option.getD_some, Bool.not_eq_true', Bool.not_eq_false] at h3
    have ⟨c, hc⟩ : ∃ c, lblIdx f.blocks (labAt f.blocks fr) = some c := hN.labels hf hy hx _ (List.mem_of_getElem? hq)
    have hcf : c = fr := lab_inj hN hf (lblIdx_lt hc) hfl (lblIdx_lab hc)
    rw [hc, Option.getD_some, hcf] at h3
    have hmem : a ∈ x.args := List.mem_of_getElem? ha
    -- a is a name that is known
    have h4 := firstOf_eq_none (show rNoVar p = none from hN 16 (by omega) (by omega)) hf
    have h5 := firstOf_eq_none (firstOf_eq_none (show firstOf f.blocks (nvB (varsOf f) i) = none from h4) hy) hx
    unfold nvC at h5
    have h8 : a ∈ varsOf f := by
      by_cases h9 : ((x.a :: x.b :: x.args).any fun s => !(varsOf f).contains s) = true
      · rw [if_pos h9] at h5; cases h5
      · have h11 : ((x.a :: x.b :: x.args).any fun s => !(varsOf f).contains s) = false := by simpa using h9
        have h10 := List.any_eq_false.1 h11 a (List.mem_cons_of_mem _ (List.mem_cons_of_mem _ hmem))
        simpa using h10
    have ha0 : a ≠ [] := by
      have g1 := firstOf_eq_none (show rBadName p = none from hN 2 (by omega) (by omega)) hf
      unfold bnF at g1
      split at g1
      · cases g1
      · have g2 := firstOf_eq_none g1 hy
        unfold bnB at g2
        split at g2
        · cases g2
        · have g3 := firstOf_eq_none g2 hx
          unfold bnC at g3
          split at g3
          · cases g3
          · rename_i g4
            unfold wrongName at g4
            rw [h6] at g4
            intro e
            rw [e] at hmem
            apply g4
            have : x.args.contains [] = true := by simpa using hmem
            simp [shp0, shpOf, hmem]
    simp only [varsOf, List.mem_cons, List.mem_append] at h8
    by_cases han : a = nought
    · rw [han]; exact hD.1
    · have hqd : ∃ q, aget (defsF f) a = some q := by
        rcases h8 with h8 | h8 | h8
        · exact absurd h8 ha0
        · exact absurd h8 han
        · exact defs_some f h8
      exact atEnd_def hw hD ha0 hqd h3
end Go.Proofs.YtpemkbjbbcnddaaGreat

/- What SoundWalks keeps on its walk: the relation and its plain laws. No condition. -/
import Derived.Test.YtpemkbjbbcnddaaGreatCLwV
import Derived.Test.YtpemkbjbbcnddaaGreatCBase
import Derived.Test.YtpemkbjbbcnddaaGreatCSli
set_option linter.unusedVariables false
set_option linter.unusedSimpArgs false
set_option linter.unusedSectionVars false
namespace Go.Proofs.YtpemkbjbbcnddaaGreat
open Go.RowKit Go.Shelf

def u8R : Rdr Nat := fun w _ b o n => w.cell? ⟨b, o, none⟩ = some (.int .u8 n) ∧ n < 256
theorem u8R.keeps : Keeps u8R := ⟨fun hk hb h => ⟨(hk _ hb).trans h.1, h.2⟩, fun _ h => h⟩
/-- What is defined so far, as the map has it. -/
def Dm (m : List (Str × Bool)) (s : Str) : Prop := aget m s = some true
theorem Dm.set {m : List (Str × Bool)} {s t : Str} (h : Dm m s ∨ s = t) : Dm (aset m t true) s := by
  unfold Dm at *
  rw [aget_set]
  rcases h with h | h
  · split
    · rfl
    · exact h
  · rw [if_pos (by simp [h])]
/-- While the function is walked through: the map of what is defined, the function's own copy. -/
structure WM (w : World) (M FB : Nat) (f : GFun) (A1 : Option Addr) (d1 : Nat) (A2 : Option Addr) (d2 : Nat) (m : List (Str × Bool)) (wr : World) : Prop where
  low : Below w.heap.size w wr
  map : wr.heap[M]? = some (mobj encS Value.bool m)
  fb : wr.heap[FB]? = some (.cells #[.string ⟨f.name.toArray⟩, .slice A1 f.params.length d1, .slice A2 f.blocks.length d2] 37 (0, 0))
  l1 : w.heap.size ≤ M
  l2 : w.heap.size ≤ FB
  l3 : M ≠ FB
theorem WM.grow {w : World} {M FB : Nat} {f : GFun} {A1 : Option Addr} {d1 : Nat} {A2 : Option Addr} {d2 : Nat} {m : List (Str × Bool)} {wr wr' : World} {row : Option Nat} (h : WM w M FB f A1 d1 A2 d2 m wr) (hg : wr.grownBy wr' row) (hr : ∀ r, row = some r → M < r ∧ FB < r) : WM w M FB f A1 d1 A2 d2 m wr' where
  low := grown_below h.low hg h.low.size (fun r e => by have := (hr r e).1; have := h.l1; omega)
  map := (hg.block _ (seen_lt h.map) (fun e => by have := (hr _ e.symm).1; omega)).trans h.map
  fb := (hg.block _ (seen_lt h.fb) (fun e => by have := (hr _ e.symm).2; omega)).trans h.fb
  l1 := h.l1
  l2 := h.l2
  l3 := h.l3
theorem WM.put {w : World} {M FB : Nat} {f : GFun} {A1 : Option Addr} {d1 : Nat} {A2 : Option Addr} {d2 : Nat} {m m' : List (Str × Bool)} {wr : World} (h : WM w M FB f A1 d1 A2 d2 m wr) : WM w M FB f A1 d1 A2 d2 m' (wr.putObj M (mobj encS Value.bool m')) where
  low := h.low.trans ((Turned.putObj wr M _).below (Below.refl _ wr) h.l1)
  map := putObj_same h.map _
  fb := (World.putObj_heap_other h.l3.symm).trans h.fb
  l1 := h.l1
  l2 := h.l2
  l3 := h.l3

theorem snd_le {p : GProg} : (sndChk p).1 ≤ 21 := by
  by_cases h : (namesChk p).1 = 0
  · by_cases h2 : (sndChk p).1 = 0
    · omega
    · exact (sound_bad h h2).2
  · rw [sndChk_names h]
    rcases namesChk_cases p with ⟨e, _⟩ | ⟨_, h1, _⟩
    · rw [e]; simp
    · omega
theorem snd_zero {p : GProg} (h : (sndChk p).1 = 0) : (namesChk p).1 = 0 := by
  refine Classical.byContradiction fun e => ?_
  rw [sndChk_names e] at h
  exact e h

/-- What waits while a block's phis go by. -/
def lateL (l : List GIns) (j : Nat) : List Str := ((l.take j).filter fun z => z.op == 6).map (·.dst)
theorem lateL_len (l : List GIns) (j : Nat) : (lateL l j).length ≤ j := by
  unfold lateL
  rw [List.length_map]
  have := List.length_filter_le (fun z : GIns => z.op == 6) (l.take j)
  have h2 : (l.take j).length ≤ j := by rw [List.length_take]; omega
  omega
theorem tk_more {α : Type} {l : List α} {j : Nat} {x : α} (h : l[j]? = some x) : l.take (j + 1) = l.take j ++ [x] := by rw [List.take_add_one, h]; rfl
theorem lateL_phi {l : List GIns} {j : Nat} {x : GIns} (h : l[j]? = some x) (h6 : x.op = 6) : lateL l (j + 1) = lateL l j ++ [x.dst] := by
  unfold lateL
  rw [tk_more h, List.filter_append]
  simp [h6]
theorem lateL_no {l : List GIns} {j : Nat} {x : GIns} (h : l[j]? = some x) (h6 : x.op ≠ 6) : lateL l (j + 1) = lateL l j := by
  unfold lateL
  rw [tk_more h, List.filter_append]
  simp [h6]
/-- How far a block is walked: phis alone so far; or all that is behind is defined. -/
def CodeOk (l : List GIns) (j : Nat) (m : List (Str × Bool)) : Prop := (∀ z ∈ l.take j, z.op = 6) ∨ ((∃ z ∈ l.take j, z.op ≠ 6) ∧ ∀ z ∈ l.take j, z.dst ≠ [] → Dm m z.dst)
theorem CodeOk.zero (l : List GIns) (m : List (Str × Bool)) : CodeOk l 0 m := .inl fun z hz => by simp at hz
theorem CodeOk.phi {l : List GIns} {j : Nat} {x : GIns} (m : List (Str × Bool)) (h : l[j]? = some x) (h6 : x.op = 6) (hp : ∀ z ∈ l.take j, z.op = 6) : CodeOk l (j + 1) m := by
  left
  intro z hz
  rw [tk_more h] at hz
  rcases List.mem_append.1 hz with hz | hz
  · exact hp z hz
  · rw [List.mem_singleton.1 hz]; exact h6
theorem CodeOk.flush {l : List GIns} {j : Nat} {m m' : List (Str × Bool)} (h : CodeOk l j m) (hm : ∀ s, Dm m s → Dm m' s) (hl : ∀ s ∈ lateL l j, Dm m' s) : ∀ z ∈ l.take j, z.dst ≠ [] → Dm m' z.dst := by
  intro z hz hd
  rcases h with h | ⟨_, h⟩
  · exact hl _ (List.mem_map.2 ⟨z, List.mem_filter.2 ⟨hz, by simp [h z hz]⟩, rfl⟩)
  · exact hm _ (h z hz hd)
theorem CodeOk.step {l : List GIns} {j : Nat} {x : GIns} {m m' : List (Str × Bool)} (h : l[j]? = some x) (h6 : x.op ≠ 6) (ha : ∀ z ∈ l.take j, z.dst ≠ [] → Dm m z.dst) (hm : ∀ s, Dm m s → Dm m' s) (hx : x.dst ≠ [] → Dm m' x.dst) : CodeOk l (j + 1) m' := by
  right
  rw [tk_more h]
  refine ⟨⟨x, by simp, h6⟩, fun z hz hd => ?_⟩
  rcases List.mem_append.1 hz with hz | hz
  · exact hm _ (ha z hz hd)
  · rw [List.mem_singleton.1 hz] at hd ⊢; exact hx hd
theorem CodeOk.done {l : List GIns} {m : List (Str × Bool)} (h : CodeOk l l.length m) {x : GIns} (hx : x ∈ l) (h6 : x.op ≠ 6) : ∀ z ∈ l, z.dst ≠ [] → Dm m z.dst := by
  unfold CodeOk at h
  rw [List.take_length] at h
  rcases h with h | ⟨_, h⟩
  · exact absurd (h x hx) h6
  · exact h
theorem Dm.more {m : List (Str × Bool)} {t s : Str} (h : Dm m s) : Dm (aset m t true) s := Dm.set (.inl h)
theorem Dm.new (m : List (Str × Bool)) (t : Str) : Dm (aset m t true) t := Dm.set (.inr rfl)
theorem Defd.more {f : GFun} {vs : List Nat} {D D' : Str → Prop} (h : Defd f vs D) (hd : ∀ s, D s → D' s) : Defd f vs D' := ⟨hd _ h.1, fun s hs => hd _ (h.2.1 s hs), fun v hv y hy x hx e => hd _ (h.2.2 v hv y hy x hx e)⟩
theorem Defd.next {f : GFun} {vs : List Nat} {D : Str → Prop} {k : Nat} {y : GBlk} (h : Defd f vs D) (hy : f.blocks[k]? = some y) (hc : ∀ z ∈ y.code, z.dst ≠ [] → D z.dst) : Defd f (vs ++ [k]) D := by
  refine ⟨h.1, h.2.1, fun v hv y' hy' x hx e => ?_⟩
  rcases List.mem_append.1 hv with hv | hv
  · exact h.2.2 v hv y' hy' x hx e
  · rw [List.mem_singleton.1 hv, hy] at hy'
    cases hy'
    exact hc x hx e

/-- At the start of a block on the walk: what was met, what is defined, by which way one came. -/
structure Wlk (f : GFun) (vs : List Nat) (k : Nat) (fs : Str) (m : List (Str × Bool)) : Prop where
  on : OnWalk f vs k
  defd : Defd f vs (Dm m)
  way : k = 0 ∨ ∃ fr, fr ∈ vs ∧ fr < f.blocks.length ∧ (∀ d, d ∉ vs → PathAv (succG f.blocks) 0 d fr) ∧ k ∈ row (succG f.blocks) fr ∧ fs = labAt f.blocks fr
theorem Wlk.more {f : GFun} {vs : List Nat} {k : Nat} {fs : Str} {m m' : List (Str × Bool)} (h : Wlk f vs k fs m) (hm : ∀ s, Dm m s → Dm m' s) : Wlk f vs k fs m' := ⟨h.on, h.defd.more hm, h.way⟩
theorem NOk.badPhi {p : GProg} (h : NOk p) {i b k : Nat} {f : GFun} {y : GBlk} {x : GIns} (hf : p[i]? = some f) (hy : f.blocks[b]? = some y) (hx : y.code[k]? = some x) (h6 : x.op = 6) : b ≠ 0 ∧ ∀ z ∈ y.code.take k, z.op = 6 := by
  have h1 := findP_none (show rBadPhi p = none from h 11 (by omega) (by omega)) hf hy hx
  have hc : codeOf p i b = y.code := by simp [codeOf, blocksOf_of hf, hy]
  simp only [hc, h6, beq_self_eq_true, Bool.true_and, Bool.or_eq_false_iff, beq_eq_false_iff_ne] at h1
  refine ⟨h1.1, fun z hz => ?_⟩
  have := List.any_eq_false.1 h1.2 z hz
  simpa using this
/-- A phi on the walk. -/
theorem Wlk.phi {p : GProg} (hN : NOk p) (hS : SOk p) {i : Nat} {f : GFun} (hf : p[i]? = some f) {vs : List Nat} {k j : Nat} {fs : Str} {m : List (Str × Bool)} (h : Wlk f vs k fs m) {y : GBlk} {x : GIns} (hy : f.blocks[k]? = some y) (hx : y.code[j]? = some x) (h6 : x.op = 6) :
    (x.labels.countP fun s => s == fs) = 1 ∧ ∀ (q : Nat) (a : Str), x.labels[q]? = some fs → x.args[q]? = some a → Dm m a := by
  rcases h.way with h0 | ⟨fr, h1, h2, h3, h4, rfl⟩
  · exact absurd h0 (hN.badPhi hf hy hx h6).1
  · exact phi_def hN hS hf h1 h2 h3 h.defd h4 hy hx h6
theorem mem_succ' {p : GProg} (hN : NOk p) {i : Nat} {f : GFun} (hf : p[i]? = some f) {k c : Nat} {y : GBlk} {s : Str} (hy : f.blocks[k]? = some y) (hs : s ∈ (lastIns y).labels) (hc : lblIdx f.blocks s = some c) : c ∈ row (succG f.blocks) k := by
  have hne : (lastIns y).op ≠ 14 := by
    intro h14
    obtain ⟨hcd, _⟩ := hN.ends hf hy
    have h1 := hN.ins hf hy (lastIns_at hcd)
    unfold badIns badShape at h1
    rw [h14] at h1
    have h2 : (lastIns y).labels.isEmpty = false := by
      cases h3 : (lastIns y).labels with
      | nil => rw [h3] at hs; cases hs
      | cons a l => rfl
    simp [shpOf, h2] at h1
  unfold row succG
  rw [List.getElem?_map, hy]
  simp only [Option.map_some, Option.getD_some]
  refine mem_formN.2 ?_
  unfold rawRow
  rw [if_neg hne]
  exact List.mem_map.2 ⟨s, hs, by rw [hc]; rfl⟩
/-- On to the next block. -/
theorem Wlk.next {p : GProg} (hN : NOk p) (hS : SOk p) {i : Nat} {f : GFun} (hf : p[i]? = some f) {vs : List Nat} {k : Nat} {fs : Str} {m : List (Str × Bool)} (h : Wlk f vs k fs m) {y : GBlk} (hy : f.blocks[k]? = some y) (hc : CodeOk y.code y.code.length m) {s : Str} (hs : s ∈ (lastIns y).labels) :
    ∃ c : Nat, idxOf (fun b => b.label == s) f.blocks = c ∧ 0 < c ∧ Wlk f (vs ++ [k]) c y.label m := by
  obtain ⟨hcd, _⟩ := hN.ends hf hy
  have hx := lastIns_at hcd
  obtain ⟨c, hcc⟩ := hN.labels hf hy hx s hs
  have hrow := mem_succ' hN hf hy hs hcc
  have hc0 := hS.back hN hf hrow
  have h6 : (lastIns y).op ≠ 6 := by
    have := (hN.fok hf).of.op y (List.mem_of_getElem? hy)
    omega
  have hall := hc.done (List.mem_of_getElem? hx) h6
  refine ⟨c, by rw [idx_lbl, hcc], by omega, h.on.next hrow (lblIdx_lt hcc), h.defd.next hy hall, .inr ⟨k, by simp, h.on.lt, fun d hd => h.on.av d (fun e => hd (List.mem_append_left _ e)) (fun e => hd (by simp [e])), hrow, by simp [labAt, hy]⟩⟩
theorem Wlk.uses {p : GProg} (hN : NOk p) (hS : SOk p) {i : Nat} {f : GFun} (hf : p[i]? = some f) {vs : List Nat} {k j : Nat} {fs : Str} {m : List (Str × Bool)} (h : Wlk f vs k fs m) {y : GBlk} {x : GIns} (hy : f.blocks[k]? = some y) (hx : y.code[j]? = some x) (h6 : x.op ≠ 6) (hcode : ∀ z ∈ y.code.take j, z.dst ≠ [] → Dm m z.dst) : ∀ s ∈ usesL x, Dm m s :=
  use_def hN hS hf h.on h.defd hy hx h6 hcode
/-- Params put in, one by one. -/
def parM (l : List Str) : List (Str × Bool) := l.foldl (fun m s => aset m s true) (aset [] nought true)
theorem parM_more {l : List Str} {k : Nat} {s : Str} (h : l[k]? = some s) : parM (l.take (k + 1)) = aset (parM (l.take k)) s true := by
  rw [tk_more h, parM, List.foldl_append]; rfl
theorem parM_has (l : List Str) : Dm (parM l) nought ∧ ∀ s ∈ l, Dm (parM l) s := by
  have key : ∀ (r : List Str) (m : List (Str × Bool)), (∀ s, Dm m s → Dm (r.foldl (fun m s => aset m s true) m) s) ∧ ∀ s ∈ r, Dm (r.foldl (fun m s => aset m s true) m) s := by
    intro r
    induction r with
    | nil => intro m; exact ⟨fun s h => h, fun s h => by cases h⟩
    | cons x r ih =>
      intro m
      refine ⟨fun s h => (ih _).1 s h.more, fun s h => ?_⟩
      rcases List.mem_cons.1 h with rfl | h
      · exact (ih _).1 _ (Dm.new _ _)
      · exact (ih _).2 s h
  exact ⟨(key l _).1 _ (Dm.new _ _), (key l _).2⟩
theorem Wlk.start (f : GFun) (h : 0 < f.blocks.length) : Wlk f [] 0 [] (parM f.params) := ⟨.start f h, ⟨(parM_has _).1, (parM_has _).2, fun v hv => by cases hv⟩, .inl rfl⟩

/-- A look-up in the map of what is defined. -/
theorem run_dm {w : World} {M : Nat} {m : List (Str × Bool)} {s : Str} (hb : w.heap[M]? = some (mobj encS Value.bool m)) (h : Dm m s) :
    (Instr.lookup 39 (.map (some M)) (.string ⟨s.toArray⟩) false).run Tryz.prog w = .ok (.bool true) w := by
  have h1 := run_mapGet (P := Tryz.prog) (keyS Tryz.underlying9) Tryz.underlying39 hb s (z := .bool false) (by kernel_rfl)
  unfold Dm at h
  rw [h] at h1
  exact h1
theorem owns_atS {w : World} {base : Nat} {A : Option Addr} {n c k : Nat} {l : List Str} {x : Str} (h : w.ownsRow base 9 1 (.slice A n c) n (l.map encS)) (hk : l[k]? = some x) :
    ∃ b, A = some ⟨b, 0, none⟩ ∧ base ≤ b ∧ b < w.heap.size ∧ w.cell? ⟨b, k, none⟩ = some (.string ⟨x.toArray⟩) := by
  have hn : n = l.length := by have := h.1; simpa using this.symm
  have hlt := (List.getElem?_eq_some_iff.1 hk).1
  obtain ⟨A', c', e, _, _, h0, h1⟩ := owns_slice h
  injection e with e1 e2 e3
  subst e1; subst e3
  cases A with
  | none => have := (h0 rfl).1; omega
  | some a =>
    obtain ⟨e4, h5, h6⟩ := h1 a rfl
    rw [e4] at h
    refine ⟨a.block, by rw [← e4], h5, h6, ?_⟩
    have := h.cellAt k (by omega)
    rw [this]
    simp [(List.getElem?_eq_some_iff.1 hk).2, encS, hlt]
theorem owns_not {w : World} {base M n : Nat} {e : TypeId} {v : Value} {xs : List Value} (h : w.ownsRow base e 1 v n xs) (hM : M < base) : v.ownBlock = none ∨ some M ≠ v.ownBlock := by
  right
  intro e
  have := (h.lt M e.symm).1
  omega
end Go.Proofs.YtpemkbjbbcnddaaGreat

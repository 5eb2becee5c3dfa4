/- How what package sound knows of a function lies in memory. No condition. -/
import Derived.Test.YtiheiaaifdjpeaaGreatCCfgOf
import Derived.Test.YtiheiaaifdjpeaaGreatCDomD
import Derived.Test.YtiheiaaifdjpeaaGreatCCfgU
set_option linter.unusedVariables false
set_option linter.unusedSimpArgs false
set_option linter.unusedSectionVars false
set_option maxHeartbeats 4000000
set_option maxRecDepth 100000
namespace Go.Proofs.YtiheiaaifdjpeaaGreat
open Go.RowKit Go.Shelf
structure BodyAt (w : World) (B b : Nat) (f : GFun) (A1 : Option Addr) (d1 : Nat) (A2 : Option Addr) (d2 S S2 O M : Nat) (order : List Nat) (o : Out) : Prop where
 lt : b < B
 blk : w.heap[b]? = some (.cells #[.string ⟨f.name.toArray⟩, .slice A1 f.params.length d1, .slice A2 f.blocks.length d2, .slice (some ⟨S, 0, none⟩) f.blocks.length f.blocks.length, .slice (some ⟨S2, 0, none⟩) f.blocks.length f.blocks.length, .slice (some ⟨O, 0, none⟩) f.blocks.length f.blocks.length, .map (some M)] 162 (0, 0))
 fn : FunAt w B f (.slice A1 f.params.length d1) (.slice A2 f.blocks.length d2)
 succ : GraphAt w B (.slice (some ⟨S, 0, none⟩) f.blocks.length f.blocks.length) (succG f.blocks)
 pred : GraphAt w B (.slice (some ⟨S2, 0, none⟩) f.blocks.length f.blocks.length) (backG (succG f.blocks))
 tree : TreeAt w B O (succG f.blocks) order o
 defs : w.heap[M]? = some (mobj encS encPl (defsF f))
 mlt : M < B
theorem BodyAt.below {w w' : World} {B b : Nat} {f : GFun} {A1 : Option Addr} {d1 : Nat} {A2 : Option Addr} {d2 S S2 O M : Nat} {order : List Nat} {o : Out} (h : BodyAt w B b f A1 d1 A2 d2 S S2 O M order o) {B' : Nat} (hb : Below B' w w') (hB : B ≤ B') :
  BodyAt w' B b f A1 d1 A2 d2 S S2 O M order o where
 lt := h.lt
 blk := (hb.block b (Nat.lt_of_lt_of_le h.lt hB)).trans h.blk
 fn := h.fn.below hb hB
 succ := h.succ.below rowR.keeps hb hB
 pred := h.pred.below rowR.keeps hb hB
 tree := h.tree.below hb hB
 defs := (hb.block M (Nat.lt_of_lt_of_le h.mlt hB)).trans h.defs
 mlt := h.mlt
theorem BodyAt.more {w : World} {B b : Nat} {f : GFun} {A1 : Option Addr} {d1 : Nat} {A2 : Option Addr} {d2 S S2 O M : Nat} {order : List Nat} {o : Out} (h : BodyAt w B b f A1 d1 A2 d2 S S2 O M order o) {B' : Nat} (hB : B ≤ B') :
  BodyAt w B' b f A1 d1 A2 d2 S S2 O M order o where
 lt := Nat.lt_of_lt_of_le h.lt hB
 blk := h.blk
 fn := h.fn.more hB
 succ := h.succ.more rowR.keeps hB
 pred := h.pred.more rowR.keeps hB
 tree := h.tree.more hB
 defs := h.defs
 mlt := Nat.lt_of_lt_of_le h.mlt hB
def Body (w : World) (B b : Nat) (f : GFun) : Prop := ∃ A1 d1 A2 d2 S S2 O M order o, BodyAt w B b f A1 d1 A2 d2 S S2 O M order o
theorem Body.below {w w' : World} {B b : Nat} {f : GFun} (h : Body w B b f) {B' : Nat} (hb : Below B' w w') (hB : B ≤ B') : Body w' B b f := by
 obtain ⟨A1, d1, A2, d2, S, S2, O, M, order, o, h⟩ := h
 exact ⟨A1, d1, A2, d2, S, S2, O, M, order, o, h.below hb hB⟩
theorem Body.more {w : World} {B b : Nat} {f : GFun} (h : Body w B b f) {B' : Nat} (hB : B ≤ B') : Body w B' b f := by
 obtain ⟨A1, d1, A2, d2, S, S2, O, M, order, o, h⟩ := h
 exact ⟨A1, d1, A2, d2, S, S2, O, M, order, o, h.more hB⟩
end Go.Proofs.YtiheiaaifdjpeaaGreat
namespace Go.Proofs.YtiheiaaifdjpeaaGreat
open Go.RowKit Go.Shelf
def defsAt (f : GFun) (s : Str) : Int × Nat := (aget (defsF f) s).getD (0, 0)
noncomputable def atEndB (f : GFun) (s : Str) (k : Nat) : Bool := s == nought || decide ((defsAt f s).1 < 0) || domB (succG f.blocks) (defsAt f s).1.toNat k
noncomputable def atB (f : GFun) (s : Str) (k i : Nat) : Bool := if (defsAt f s).1 = k then decide ((defsAt f s).2 < i) else atEndB f s k
theorem atEnd_any (f : GFun) (b B : Nat) (w : World) (s : Str) (k : Nat) (hk : k < f.blocks.length) (hn : f.blocks.length ≤ 65536) (h : Body w B b f) (hB : B ≤ w.heap.size) (hd1 : -1 ≤ (defsAt f s).1) (hd : (defsAt f s).1 < f.blocks.length) (hd2 : (defsAt f s).2 ≤ 1099511627776) (hs : s.length ≤ 9223372036854775807) :
  Calls Tryz.prog 152 #[.pointer (some ⟨b, 0, none⟩), .string ⟨s.toArray⟩, .int .i64 k] w fun e w' => e = .returned (.bool (atEndB f s k)) ∧ w.grownBy w' none := by
 obtain ⟨A1, d1, A2, d2, S, S2, O, M, order, o, h⟩ := h
 obtain ⟨j1, _⟩ := blk_facts h.blk
 have e6 : w.cell? ⟨b, 6, none⟩ = some (.map (some M)) := j1 6
 have e5 : w.cell? ⟨b, 5, none⟩ = some (.slice (some ⟨O, 0, none⟩) f.blocks.length f.blocks.length) := j1 5
 have hrun := run_mapGet (P := Tryz.prog) (keyS Tryz.underlying9) Tryz.underlying160 h.defs s (z := .agg #[.int .i64 0, .int .i64 0]) (by kernel_rfl)
 replace hrun := hrun.trans (congrArg (fun v => Result.ok v w) (show _ = encPl (defsAt f s) by unfold defsAt encPl; cases aget (defsF f) s <;> rfl))
 simp only [encS, encPl] at hrun
 have hlt := h.lt
 have hltO := h.tree.lt
 have HT := Lib.hid h.tree
 have h1 := World.alloc_heap_new w (.cells #[.int .i64 (defsAt f s).1, .int .i64 (defsAt f s).2] 164)
 clear j1 h
 have hsn : Hid (atEndB f s k = (s == nought || decide ((defsAt f s).1 < 0) || domB (succG f.blocks) (defsAt f s).1.toNat k)) := rfl
 have hdom : ∀ W : World, w.grownBy W none → ∀ a : Nat, a < f.blocks.length → Calls Tryz.prog 195 #[.slice (some ⟨O, 0, none⟩) f.blocks.length f.blocks.length, .int .i64 a, .int .i64 k] W fun e w' => e = .returned (.bool (domB (succG f.blocks) a k)) ∧ W = w' :=
  fun W hg a ha => dom_any a k _ O B _ order o W (succG_length _).symm hn ha hk (HT.out.below (grown_none hg) hB)
 obtain ⟨D1, hD1⟩ : ∃ D : Int, D = (defsAt f s).1 := ⟨_, rfl⟩
 obtain ⟨D2, hD2⟩ : ∃ D : Nat, D = (defsAt f s).2 := ⟨_, rfl⟩
 rw [← hD1, ← hD2] at hrun h1
 rw [← hD1] at hd1 hd hsn
 rw [← hD2] at hd2
 obtain ⟨p1, _⟩ := blk_facts h1
 have c0 : (w.alloc (.cells #[.int .i64 D1, .int .i64 D2] 164)).cell? ⟨w.heap.size, 0, none⟩ = some (.int .i64 D1) := p1 0
 clear hD1 hD2 HT h1 p1
 have hg := World.grownBy_alloc w (.cells #[.int .i64 D1, .int .i64 D2] 164) none
 have hbw : b ≠ w.heap.size := by omega
 have hbl : b < w.heap.size := by omega
 have HG := Lib.hid hg
 clear hg
 cases q1 : s == [110, 117, 108, 108] with
 | true =>
  have HR := Lib.hid (show atEndB f s k = true by rw [hsn.out, nought, q1]; rfl)
  clear hsn hdom hd hd1 hd2 e5
  go_enter Tryz.func152, Tryz.ntmps152
  go_upto_region 2 with (fail)
  clear hrun e6
  go_quiet (fail)
  go_wp2
  go_ret
  exact ⟨by rw [HR.out]; rfl, grown_drewN HG.out _⟩
 | false =>
  by_cases q2 : D1 < 0
  ·have HR := Lib.hid (show atEndB f s k = true by rw [hsn.out]; simp [q2])
   have q2' : decide (D1 < 0) = true := by simp [q2]
   clear hsn hdom hd hd1 hd2 e5 q2
   go_enter Tryz.func152, Tryz.ntmps152
   go_upto_region 2 with (fail)
   clear hrun e6
   go_quiet (fail)
   go_wp2
   go_ret
   exact ⟨by rw [HR.out]; rfl, grown_drewN HG.out _⟩
  ·obtain ⟨a, rfl⟩ : ∃ a : Nat, D1 = a := ⟨D1.toNat, by omega⟩
   have HR := Lib.hid (show atEndB f s k = domB (succG f.blocks) a k by rw [hsn.out, nought, q1]; simp [q2])
   have q2' : decide ((a : Int) < 0) = false := by simp
   have e5' : (w.alloc (.cells #[.int .i64 (a : Int), .int .i64 D2] 164)).cell? ⟨b, 5, none⟩ = some (.slice (some ⟨O, 0, none⟩) f.blocks.length f.blocks.length) := (World.cell?_alloc_lt w _ _ hbl).trans e5
   have hc := fun n : Nat => hdom _ (grown_drewN HG.out n) a (by omega)
   clear hsn hdom hd1 q2 e5
   go_enter Tryz.func152, Tryz.ntmps152
   go_upto_region 2 with (fail)
   clear hrun e6
   go_quiet ((go_at_call 195; exact (hc _).mono fun e w' h => ⟨h.1, _, h.2.symm⟩))
   go_wp2
   go_ret
   exact ⟨by rw [HR.out]; rfl, grown_drewN HG.out _⟩
theorem at_any (f : GFun) (b B : Nat) (w : World) (s : Str) (k i : Nat) (hk : k < f.blocks.length) (hn : f.blocks.length ≤ 65536) (hi : i ≤ 1099511627776) (h : Body w B b f) (hB : B ≤ w.heap.size) (hd1 : -1 ≤ (defsAt f s).1) (hd : (defsAt f s).1 < f.blocks.length) (hd2 : (defsAt f s).2 ≤ 1099511627776) (hs : s.length ≤ 9223372036854775807) :
  Calls Tryz.prog 151 #[.pointer (some ⟨b, 0, none⟩), .string ⟨s.toArray⟩, .int .i64 k, .int .i64 i] w fun e w' => e = .returned (.bool (atB f s k i)) ∧ w.grownBy w' none := by
 have hb := h
 obtain ⟨A1, d1, A2, d2, S, S2, O, M, order, o, h⟩ := h
 obtain ⟨j1, _⟩ := blk_facts h.blk
 have e6 : w.cell? ⟨b, 6, none⟩ = some (.map (some M)) := j1 6
 have hrun := run_mapGet (P := Tryz.prog) (keyS Tryz.underlying9) Tryz.underlying160 h.defs s (z := .agg #[.int .i64 0, .int .i64 0]) (by kernel_rfl)
 replace hrun := hrun.trans (congrArg (fun v => Result.ok v w) (show _ = encPl (defsAt f s) by unfold defsAt encPl; cases aget (defsF f) s <;> rfl))
 simp only [encS, encPl] at hrun
 have hlt := h.lt
 have hend : ∀ W : World, w.grownBy W none → Calls Tryz.prog 152 #[.pointer (some ⟨b, 0, none⟩), .string ⟨s.toArray⟩, .int .i64 k] W fun e w' => e = .returned (.bool (atEndB f s k)) ∧ W.grownBy w' none :=
  fun W hg => atEnd_any f b B W s k hk hn (hb.below (grown_none hg) hB) (Nat.le_trans hB hg.size) hd1 hd hd2 hs
 have hat : Hid (atB f s k i = if (defsAt f s).1 = k then decide ((defsAt f s).2 < i) else atEndB f s k) := rfl
 clear j1 h hb
 obtain ⟨D1, hD1⟩ : ∃ D : Int, D = (defsAt f s).1 := ⟨_, rfl⟩
 obtain ⟨D2, hD2⟩ : ∃ D : Nat, D = (defsAt f s).2 := ⟨_, rfl⟩
 rw [← hD1, ← hD2] at hrun hat
 rw [← hD1] at hd1 hd
 rw [← hD2] at hd2
 clear hD1 hD2
 have HG := Lib.hid (World.grownBy_alloc w (.cells #[.int .i64 D1, .int .i64 D2] 164) none)
 have hc := hend _ HG.out
 have hbw : b ≠ w.heap.size := by omega
 have hbl : b < w.heap.size := by omega
 clear hend
 by_cases q1 : D1 = k
 ·subst q1
  have HR := Lib.hid (show atB f s k i = decide (D2 < i) by rw [hat.out]; simp)
  clear hat hc
  go_enter Tryz.func151, Tryz.ntmps151
  go_wp2
  go_ret
  exact ⟨by rw [HR.out]; simp, HG.out⟩
 ·have HR := Lib.hid (show atB f s k i = atEndB f s k by rw [hat.out]; simp [q1])
  have q1' : (D1 == (k : Int)) = false := beq_eq_false_iff_ne.2 q1
  clear hat
  go_enter Tryz.func151, Tryz.ntmps151
  go_upto_region 4 with (fail)
  repeat go_step
  refine hc.mono ?_
  rintro e w2 ⟨rfl, hg2⟩
  go_wp2
  go_ret
  exact ⟨by rw [HR.out]; rfl, grown_trans HG.out hg2⟩
end Go.Proofs.YtiheiaaifdjpeaaGreat
namespace Go.Proofs.YtiheiaaifdjpeaaGreat
def headL (f : GFun) : Str := labAt f.blocks 0
def entryQ (f : GFun) (_ _ : Nat) (x : GIns) : Bool := !(x.op == 6) && x.labels.contains (headL f)
def wantL (f : GFun) (k : Nat) : List Str := ((backG (succG f.blocks))[k]?.getD []).map (labAt f.blocks)
def phiQ (f : GFun) (k _ : Nat) (x : GIns) : Bool := x.op == 6 && !(decide (sortS (wantL f k) = sortS x.labels))
noncomputable def phiBad (f : GFun) (x : GIns) : Bool := (List.range x.args.length).any fun j => !(atEndB f (x.args[j]?.getD []) ((lblIdx f.blocks (x.labels[j]?.getD [])).getD 0))
noncomputable def notDomQ (f : GFun) (k i : Nat) (x : GIns) : Bool := if x.op = 6 then phiBad f x else (usesL x).any fun s => !(atB f s k i)
def findF (f : GFun) (q : Nat → Nat → GIns → Bool) : Option (Nat × Nat) := firstOf f.blocks fun b y => firstOf y.code fun i x => if q b i x then some (b, i) else none
theorem findF_none {f : GFun} {q : Nat → Nat → GIns → Bool} (h : ∀ b, b < f.blocks.length → ∀ y, f.blocks[b]? = some y → firstOf y.code (fun i x => if q b i x then some (b, i) else none) = none) : findF f q = none := firstOf_none h
theorem findC_none {b : Nat} {y : GBlk} {q : Nat → Nat → GIns → Bool} (h : ∀ i, i < y.code.length → ∀ x, y.code[i]? = some x → q b i x = false) : firstOf y.code (fun i x => if q b i x then some (b, i) else none) = none :=
 firstOf_none fun i hi x hx => by simp [h i hi x hx]
theorem findF_some {f : GFun} {q : Nat → Nat → GIns → Bool} {b i : Nat} {y : GBlk} {x : GIns} (h : ∀ j, j < b → ∀ y, f.blocks[j]? = some y → firstOf y.code (fun i x => if q j i x then some (j, i) else none) = none) (hy : f.blocks[b]? = some y) (hx : y.code[i]? = some x)
  (h2 : ∀ j, j < i → ∀ z, y.code[j]? = some z → q b j z = false) (hq : q b i x = true) : findF f q = some (b, i) :=
 firstOf_some h hy (firstOf_some (fun j hj z hz => by simp [h2 j hj z hz]) hx (by simp [hq]))
noncomputable def reachB (g : Gph) (k : Nat) : Bool := by classical exact decide (Path g 0 k)
noncomputable def unreachedR (f : GFun) : Option (Nat × Nat) := (((List.range f.blocks.length).find? fun k => !(reachB (succG f.blocks) k))).map fun k => (k, 0)
noncomputable def sndRule (f : GFun) : Nat → Option (Nat × Nat)
 | 17 => findF f (entryQ f)
 | 18 => unreachedR f
 | 19 => findF f (phiQ f)
 | 20 => findF f (notDomQ f)
 | _ => none
def defVars (f : GFun) : Nat := f.params.length + ((f.blocks.flatMap (·.code)).filter fun x => !x.dst.isEmpty).length
def fldIns (x : GIns) : Int := if x.op = 1 ∨ x.op = 2 then x.n else 0
def fldF (f : GFun) : Int := ((f.blocks.flatMap (·.code)).map fldIns).sum
def nVars (p : GProg) : Nat := (p.map defVars).sum
def nFlds (p : GProg) : Int := p.length + (p.map fldF).sum
noncomputable def sndR (p : GProg) (r : Nat) : Option GPt := firstOf p fun i f => (sndRule f r).map fun x => (i, x.1, x.2)
noncomputable def sndChk (p : GProg) : Nat × GPt :=
 if (namesChk p).1 ≠ 0 then namesChk p
 else match firstOf [17, 18, 19, 20] fun _ r => (sndR p r).map fun pt => (r, pt) with
  | some r => r
  | none => if 65536 < nVars p ∨ 65536 < nFlds p then (21, (0, 0, 0)) else (0, (0, 0, 0))
structure FOk (f : GFun) : Prop where
 of : OfOk f.blocks
 ne : f.blocks ≠ []
 code : ∀ y ∈ f.blocks, y.code.length ≤ 4096
 phi : ∀ y ∈ f.blocks, ∀ x ∈ y.code, x.op = 6 → x.args.length = x.labels.length
 lab : ∀ y ∈ f.blocks, ∀ x ∈ y.code, ∀ s ∈ x.labels, ∃ k, lblIdx f.blocks s = some k
theorem idx_lbl (bs : List GBlk) (s : Str) : idxOf (fun b => b.label == s) bs = match lblIdx bs s with | some i => (i : Int) | none => -1 := by
 have hlab : ∀ (j : Nat) (y : GBlk), bs[j]? = some y → labAt bs j = y.label := fun j y hy => by simp [labAt, hy]
 cases h : lblIdx bs s with
 | some i =>
  have hi := lblIdx_lt h
  have hl := lblIdx_lab h
  have hy : bs[i]? = some bs[i] := List.getElem?_eq_getElem hi
  refine idx_hit (fun j hj y hyj => ?_) hy ?_
  ·rw [lblIdx, List.find?_range_eq_some] at h
   have := h.2.2 j hj
   rw [hlab j y hyj] at this
   simp only [Bool.not_eq_true', beq_eq_false_iff_ne, ne_eq] at this ⊢
   exact fun e => this e.symm
  ·rw [hlab i _ hy] at hl
   simp [hl]
 | none =>
  refine idx_miss fun j hj y hyj => ?_
  unfold lblIdx at h
  rw [List.find?_eq_none] at h
  have := h j (by simpa using hj)
  rw [hlab j y hyj] at this
  simp only [beq_iff_eq] at this
  simp only [beq_eq_false_iff_ne, ne_eq]
  exact fun e => this e.symm
def PlOk (n : Nat) (p : Int × Nat) : Prop := -1 ≤ p.1 ∧ p.1 < n ∧ p.2 ≤ 4096
theorem aset_ok {n : Nat} {m : Defs} {s : Str} {p : Int × Nat} (hm : ∀ s q, aget m s = some q → PlOk n q) (hp : PlOk n p) : ∀ s' q, aget (aset m s p) s' = some q → PlOk n q := by
 intro s' q h
 rw [aget_set] at h
 split at h
 ·cases h; exact hp
 ·exact hm _ _ h
theorem defPar_ok (n : Nat) (hn : 0 < n) (ps : List Str) : ∀ s q, aget (defPar ps) s = some q → PlOk n q := by
 suffices h : ∀ (ps : List Str) (m : Defs), (∀ s q, aget m s = some q → PlOk n q) → ∀ s q, aget (ps.foldl (fun m s => aset m s (-1, 0)) m) s = some q → PlOk n q from h ps [] (fun s q h => by simp [aget] at h)
 intro ps
 induction ps with
 | nil => intro m hm; exact hm
 | cons s ps ih => intro m hm; exact ih _ (aset_ok hm ⟨by simp, by simp only []; omega, by simp⟩)
theorem defCode_ok {n b : Nat} (hb : b < n) (l : List GIns) (hl : l.length ≤ 4096) (m : Defs) (hm : ∀ s q, aget m s = some q → PlOk n q) : ∀ s q, aget (defCode b l m) s = some q → PlOk n q := by
 suffices h : ∀ k, k ≤ l.length → ∀ s q, aget (defCode b (l.take k) m) s = some q → PlOk n q by
  have := h l.length (Nat.le_refl _)
  rwa [List.take_length] at this
 intro k
 induction k with
 | zero => intro _; simpa [defCode] using hm
 | succ k ih =>
  intro hk
  rw [defCode_more (List.getElem?_eq_getElem hk)]
  exact aset_ok (ih (by omega)) ⟨by simp only []; omega, by simp only []; omega, by simp only []; omega⟩
theorem defs_ok {f : GFun} (hne : f.blocks ≠ []) (hc : ∀ y ∈ f.blocks, y.code.length ≤ 4096) (s : Str) : PlOk f.blocks.length (defsAt f s) := by
 have hpos := List.length_pos_iff.2 hne
 have h : ∀ s q, aget (defsF f) s = some q → PlOk f.blocks.length q := by
  suffices h : ∀ k, k ≤ f.blocks.length → ∀ s q, aget (defBlks (f.blocks.take k) (defPar f.params)) s = some q → PlOk f.blocks.length q by
   have := h f.blocks.length (Nat.le_refl _)
   rwa [List.take_length] at this
  intro k
  induction k with
  | zero => intro _; simpa [defBlks] using defPar_ok _ hpos f.params
  | succ k ih =>
   intro hk
   rw [defBlks_more (List.getElem?_eq_getElem hk)]
   exact defCode_ok hk _ (hc _ (List.getElem_mem hk)) _ (ih (by omega))
 unfold defsAt
 cases hq : aget (defsF f) s with
 | none => exact ⟨by simp, by simpa using hpos, by simp⟩
 | some q => exact h s q hq
end Go.Proofs.YtiheiaaifdjpeaaGreat
namespace Go.Proofs.YtiheiaaifdjpeaaGreat
open Go.RowKit Go.Shelf
def resV (r : Option (Nat × Nat)) : Value := .tuple #[.int .i64 ((r.getD (0, 0)).1 : Nat), .int .i64 ((r.getD (0, 0)).2 : Nat), .bool r.isSome]
theorem sfind_any (f : GFun) (b B g : Nat) (lb : Array Value) (w : World) (q : Nat → Nat → GIns → Bool) (hB : B ≤ w.heap.size) (h : Body w B b f)
  (eg : ∀ args w, (callFunc g args).run Tryz.prog w = .ok (.enter g args) w)
  (hp : ∀ (k i : Nat) (y : GBlk) (x : GIns) (va vl : Value) (W : World), f.blocks[k]? = some y → y.code[i]? = some x → Below w.heap.size w W → InsAt W B x va vl →
   Calls Tryz.prog g (#[.int .i64 k, .int .i64 i, insA x va vl] ++ lb) W fun e W' => e = .returned (.bool (q k i x)) ∧ Below w.heap.size w W') :
  Calls Tryz.prog 136 #[.pointer (some ⟨b, 0, none⟩), .func (.func g) #[] lb] w fun e w' => e = .returned (resV (findF f q)) ∧ Below w.heap.size w w' := by
 obtain ⟨A1, d1, A2, d2, S, S2, O, M, order, o, h⟩ := h
 obtain ⟨j1, _⟩ := blk_facts h.blk
 have e2 : w.cell? ⟨b, 2, none⟩ = some (.slice A2 f.blocks.length d2) := j1 2
 obtain ⟨A2', d2', hAe, m2, hl2, hc2, hA⟩ := h.fn.blocks.open_
 simp only [Value.slice.injEq] at hAe
 obtain ⟨rfl, _, rfl⟩ := hAe
 have hlt := h.lt
 have HA := Lib.hid hA
 clear j1 h hA
 go_enter Tryz.func136, Tryz.ntmps136
 go_wp2
 go_loopw [17] (fun s8 wr => ∃ k : Nat, k ≤ f.blocks.length ∧ s8 = .int .i64 k ∧ Hid (Below w.heap.size w wr) ∧ Hid (∀ j, j < k → ∀ y, f.blocks[j]? = some y → firstOf y.code (fun i x => if q j i x then some (j, i) else none) = none)) (fun s8 _ => f.blocks.length - (intOf s8).toNat)
 case atStart => exact ⟨0, Nat.zero_le _, rfl, Below.refl _ _, below_zero⟩
 case round =>
  obtain ⟨k, hkl, rfl, hI, hP⟩ := hrel
  clear e2
  by_cases hl : k < f.blocks.length
  ·obtain ⟨y, b1, off1, hy, rfl, hbB1, hr1⟩ := HA.out.at_ hl
   obtain ⟨A5, d5, hyy, m5, e0, e1⟩ := blkR_open hr1
   have hlow := hI.out
   have hbn1 : b1 ≠ wr.heap.size := by have := hlow.size; omega
   have hbl1 : b1 < wr.heap.size := by have := hlow.size; omega
   replace e0 := cur hlow (by omega) e0
   replace e1 := cur hlow (by omega) e1
   have Hyy := Lib.hid hyy
   have Hy := Lib.hid hy
   have h9 := Lib.hid (hI.out.alloc (by have := hlow.size; omega) (.cells #[.string ⟨y.label.toArray⟩, .slice A5 y.code.length d5] 61))
   clear hr1 hy hyy hlow
   go_wp2_with fail
   go_loopw [25] (fun s8 wr => ∃ i : Nat, i ≤ y.code.length ∧ s8 = .int .i64 i ∧ Hid (Below w.heap.size w wr) ∧ Hid (∀ j, j < i → ∀ z, y.code[j]? = some z → q k j z = false)) (fun s8 _ => y.code.length - (intOf s8).toNat)
   case atStart => exact ⟨0, Nat.zero_le _, rfl, h9, below_zero⟩
   case round =>
    obtain ⟨j, hjl, rfl, hJ, hQ⟩ := hrel
    clear h9 e0 e1 hbn1 hbl1 hI
    by_cases hl2 : j < y.code.length
    ·obtain ⟨z, b3, off3, hz, rfl, hbB3, hr3⟩ := Hyy.out.code.at_ hl2
     obtain ⟨A6, d6, A7, d7, hzz, m6, m7, g0, g1, g2, g3, g4, g5, g6, g7⟩ := insR_open hr3
     have hlow := hJ.out
     have hbn3 : b3 ≠ wr.heap.size := by have := hlow.size; omega
     have hbl3 : b3 < wr.heap.size := by have := hlow.size; omega
     replace g0 := cur hlow (by omega) g0
     replace g1 := cur hlow (by omega) g1
     replace g2 := cur hlow (by omega) g2
     replace g3 := cur hlow (by omega) g3
     replace g4 := cur hlow (by omega) g4
     replace g5 := cur hlow (by omega) g5
     replace g6 := cur hlow (by omega) g6
     replace g7 := cur hlow (by omega) g7
     have hlow2 := hJ.out.alloc (show w.heap.size ≤ wr.heap.size by have := hlow.size; omega) (.cells #[.int .u8 z.op, .string ⟨z.dst.toArray⟩, .string ⟨z.a.toArray⟩, .string ⟨z.b.toArray⟩, .int .i64 z.n, .string ⟨z.fn.toArray⟩, .slice A6 z.args.length d6, .slice A7 z.labels.length d7] 38)
     have hcall := hp k j y z (.slice A6 z.args.length d6) (.slice A7 z.labels.length d7) _ Hy.out hz hlow2 (hzz.below hlow2 hB)
     simp only [insA] at hcall
     have Hz := Lib.hid hz
     have Hlow := Lib.hid hlow2
     clear hr3 hz hzz hlow hlow2
     cases hq : q k j z with
     | true =>
      rw [hq] at hcall
      go_wp2_with (go_at_fn g; refine hcall.mono ?_; rintro e w' ⟨rfl, hb'⟩)
      refine bodyPost_ret (v := resV (some (k, j))) (by simp [results, Tryz.results136, go_sem, resV]) rfl ⟨by rw [findF_some hP.out Hy.out Hz.out hQ.out hq], hb'⟩
     | false =>
      rw [hq] at hcall
      go_wp2_with (go_at_fn g; refine hcall.mono ?_; rintro e w' ⟨rfl, hb'⟩)
      go_roundw
      case rel => exact ⟨j + 1, by omega, by go_num, hb', below_succ Hz.out hQ.out hq⟩
      case measure => simp [intOf]; omega
    ·have hj : ¬ j < y.code.length := hl2
     go_wp2
     go_roundw
     case rel => exact ⟨k + 1, by omega, by go_num, hJ, below_succ Hy.out hP.out (findC_none (below_all hj hQ.out))⟩
     case measure => simp [intOf]; omega
  ·go_wp2
   refine bodyPost_ret (v := resV none) (by simp [results, Tryz.results136, go_sem, resV]) rfl ⟨by rw [findF_none (below_all hl hP.out)], hI⟩
end Go.Proofs.YtiheiaaifdjpeaaGreat

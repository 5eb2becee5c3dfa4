/- The contract of dom.Dom, at a tree that dom.Tree made. Condition: nodes of the graph. -/
import Derived.Test.YtiheiaaifdjpeaaGreatCDomT
set_option linter.unusedVariables false
set_option linter.unusedSimpArgs false
set_option linter.unusedSectionVars false
set_option maxHeartbeats 1000000
set_option maxRecDepth 100000
namespace Go.Proofs.YtiheiaaifdjpeaaGreat
open Go.RowKit
def treeV (o : Out) (root : Nat) : List Value := (outV o).set root (.int .i64 (-1))
structure TreeAt (w : World) (B O : Nat) (g : Gph) (order : List Nat) (o : Out) : Prop where
 lt : O < B
 blk : w.heap[O]? = some (.cells (treeV o 0).toArray 3 (0, 0))
 rpo : RPO g 0 order
 ok : TreeOk g 0 order o
 nodes : ∀ x ∈ order, x < g.length
theorem TreeAt.below {w w' : World} {B B' O : Nat} {g : Gph} {order : List Nat} {o : Out} (h : TreeAt w B O g order o) (hb : Below B' w w') (hB : B ≤ B') : TreeAt w' B O g order o :=
 ⟨h.lt, (hb.block O (Nat.lt_of_lt_of_le h.lt hB)).trans h.blk, h.rpo, h.ok, h.nodes⟩
theorem TreeAt.more {w : World} {B B' O : Nat} {g : Gph} {order : List Nat} {o : Out} (h : TreeAt w B O g order o) (hB : B ≤ B') : TreeAt w B' O g order o :=
 ⟨Nat.lt_of_lt_of_le h.lt hB, h.blk, h.rpo, h.ok, h.nodes⟩
open Classical in
noncomputable def domB (g : Gph) (a b : Nat) : Bool := decide (Path g 0 b ∧ DomBy g 0 a b)
theorem domB_anc {g : Gph} {order : List Nat} {o : Out} (R : RPO g 0 order) (h : TreeOk g 0 order o) (hl : ∀ x ∈ order, x < g.length) {a b : Nat} (hb : b ∈ order) : (domB g a b = true ↔ Anc o b a) := by
 simp only [domB, decide_eq_true_eq]
 rw [h.iff R hl hb]
 exact ⟨fun h => h.2, fun h => ⟨(R.mem b).1 hb, h⟩⟩
theorem TreeAt.cell {w : World} {B O : Nat} {g : Gph} {order : List Nat} {o : Out} (h : TreeAt w B O g order o) {b : Nat} (hb : b < g.length) : w.cell? ⟨O, b, none⟩ = some (.int .i64 (if b = 0 then -1 else oi (ptr o b))) := by
 have hl : b < o.length := by rw [h.ok.ok.len]; exact hb
 rw [(blk_facts h.blk).1]
 by_cases e : b = 0
 ·subst e
  simp [treeV, outV, hl]
 ·have e' : ¬ 0 = b := fun e2 => e e2.symm
  simp only [treeV, outV, List.getElem?_toArray]
  rw [List.getElem?_set_ne e', List.getElem?_map, List.getElem?_eq_getElem hl]
  simp [ptr, List.getD, hl, e]
theorem dom_any (a b n O B : Nat) (g : Gph) (order : List Nat) (o : Out) (w : World) (hn : n = g.length) (hn2 : n ≤ 65536) (ha : a < n) (hb : b < n) (hT : TreeAt w B O g order o) :
  Calls Tryz.prog 195 #[.slice (some ⟨O, 0, none⟩) n n, .int .i64 a, .int .i64 b] w fun e w' => e = .returned (.bool (domB g a b)) ∧ w = w' := by
 have hbc := hT.cell (b := b) (by omega)
 have q1 : decide ((a : Int) < 0) = false := by simp
 have q2 : decide ((b : Int) < 0) = false := by simp
 have q3 : decide ((a : Int) ≥ n) = false := by simp; omega
 have q4 : decide ((b : Int) ≥ n) = false := by simp; omega
 have q5 : decide (n ≤ a) = false := by simp; omega
 have q6 : decide (n ≤ b) = false := by simp; omega
 have HT := Lib.hid hT
 by_cases hbo : b ∈ order
 ·obtain ⟨p, hp⟩ := hT.ok.all b hbo
  have hv : ∃ v : Int, (if b = 0 then -1 else oi (ptr o b)) = v ∧ (v == -2) = false := by
   refine ⟨_, rfl, beq_eq_false_iff_ne.2 ?_⟩
   rw [hp]
   split
   ·omega
   ·simp only [oi]; omega
  obtain ⟨v, hv1, hv2⟩ := hv
  rw [hv1] at hbc
  have Hbo := Lib.hid hbo
  clear hT hp hv1 hbo
  go_enter Tryz.func195, Tryz.ntmps195
  go_wp2
  clear hbc
  go_loop [2, 35] (fun s2 s35 => ∃ (b' k : Nat), s2 = .int .i64 b' ∧ s35 = .int .i64 k ∧ b' < n ∧ Hid (Anc o b b' ∧ (Anc o b a → Anc o b' a) ∧ plc order b' + k ≤ plc order b)) (fun _ s35 => n + 1 - (intOf s35).toNat)
  case atStart => exact ⟨b, 0, rfl, rfl, hb, .refl _, id, Nat.le_refl _⟩
  case round =>
   obtain ⟨b', k, rfl, rfl, hbl, hI⟩ := hrel
   obtain ⟨h1, h2, h3⟩ := hI.out
   have hbp : plc order b < order.length := List.idxOf_lt_length_of_mem Hbo.out
   have hol : order.length ≤ n := by
    have := HT.out.rpo.nodup.length_le_of_subset (l₂ := List.range g.length) (fun x hx => List.mem_range.2 (HT.out.nodes x hx))
    rw [hn]; simpa using this
   have hk : k < n + 1 := by omega
   obtain ⟨hbm', p, hp⟩ := HT.out.ok.ok.anc_mem HT.out.rpo h1 (HT.out.ok.all b Hbo.out)
   have hc := HT.out.cell (b := b') (by omega)
   by_cases hab : a = b'
   ·have HD := Lib.hid (show domB g a b = true by rw [domB_anc HT.out.rpo HT.out.ok HT.out.nodes Hbo.out, hab]; exact h1)
    subst hab
    clear h1 h2 hp hc hI
    go_wp2
    go_ret
    exact ⟨by rw [HD.out]; rfl, rfl⟩
   ·have hab1 : ((a : Int) == b') = false := beq_eq_false_iff_ne.2 (by omega)
    by_cases hb0 : b' = 0
    ·subst hb0
     have HD := Lib.hid (show domB g a b = false by
      rw [Bool.eq_false_iff]
      intro h
      exact hab (HT.out.ok.ok.anc_root HT.out.rpo (h2 ((domB_anc HT.out.rpo HT.out.ok HT.out.nodes Hbo.out).1 h))))
     rw [if_pos rfl] at hc
     clear h1 h2 hp hI
     go_wp2
     go_ret
     exact ⟨by rw [HD.out]; rfl, rfl⟩
    ·rw [if_neg hb0, hp] at hc
     simp only [oi] at hc
     obtain ⟨_, hpo, _, hplt⟩ := HT.out.ok.ok.low b' p hp hb0
     have hpn : p < n := by rw [hn]; exact HT.out.nodes p hpo
     have r1 : decide ((p : Int) < 0) = false := by simp
     have r2 : decide ((p : Int) ≥ n) = false := by simp; omega
     have r3 : decide (n ≤ p) = false := by simp; omega
     have HN := Lib.hid (show Anc o b p ∧ (Anc o b a → Anc o p a) ∧ plc order p + (k + 1) ≤ plc order b from ⟨h1.trans (.up hp (.refl _)), fun h => HT.out.ok.ok.anc_up HT.out.rpo hp (h2 h) hab, by omega⟩)
     clear h1 h2 hp hI h3 hplt
     go_wp2
     go_round
     case rel => exact ⟨p, k + 1, rfl, by go_num, hpn, HN.out⟩
     case measure => simp [intOf]; omega
 ·have hb0 : b ≠ 0 := fun e => hbo (e ▸ hT.rpo.root_mem)
  have hpn : ptr o b = none := by
   cases e : ptr o b with
   | none => rfl
   | some p => exact absurd (hT.ok.ok.mem hT.rpo e).1 hbo
  rw [if_neg hb0, hpn] at hbc
  simp only [oi] at hbc
  have HD := Lib.hid (show domB g a b = false by
   simp only [domB, decide_eq_false_iff_not]
   exact fun h => hbo ((hT.rpo.mem b).2 h.1))
  clear hT hpn hbo
  go_enter Tryz.func195, Tryz.ntmps195
  go_wp2
  go_ret
  exact ⟨by rw [HD.out]; rfl, rfl⟩
end Go.Proofs.YtiheiaaifdjpeaaGreat

/- The contract of graph.Post. Conditions: the graph lies in memory; its rows rise and name nodes; the walk begins at a node. -/
import Derived.Test.YtpemkbjbbcnddaaGreatCGra
import Derived.Deep.LoopGhost
import Derived.RegionTactic
set_option linter.unusedVariables false
set_option linter.unusedSimpArgs false
set_option linter.unusedSectionVars false
namespace Go.Proofs.YtpemkbjbbcnddaaGreat
open Go.RowKit

theorem reverseInts_own {base : Nat} {v : Value} {l : List Nat} {w : World} (h : w.ownsRow base 3 1 v l.length (l.map encN)) :
    Calls Tryz.prog 118 #[v] w fun e w' => e = .returned (.tuple #[]) ∧ w'.ownsRow base 3 1 v l.length (l.reverse.map encN) ∧ w.grownBy w' v.ownBlock := by
  have h' := h
  rcases h.2 with ⟨rfl, h0⟩ | ⟨g, cap, cur, rfl, hbase, hh, h1, h2, h3, h4⟩
  · refine (Tryz.slices_Reverse_int_empty none 0 w).mono ?_
    rintro e w' ⟨rfl, rfl⟩
    have : l = [] := List.eq_nil_of_length_eq_zero h0
    subst this
    exact ⟨rfl, h', World.grownBy.refl _ _⟩
  · have hH := holds_of_blockI (ss := ints l) hh (by rw [ints_length, ← map_encN]; simpa using h4)
    have hml := h2
    unfold maxLen at hml
    have hc := Tryz.slices_Reverse_int g 0 cap (ints l) w hH (by rw [ints_length]; omega)
    rw [ints_length] at hc
    refine hc.mono ?_
    rintro e w' ⟨rfl, q, rfl⟩
    have e1 : (ints l).reverse = ints l.reverse := by simp [ints]
    rw [e1]
    have := ownsRow_sortedI (n := q) (os := #[]) (ss := ints l) (ts := ints l.reverse) (by simp [ints]) hbase hh (by rw [ints_length]; exact h1) h2 h3
    rw [ints_length, ← map_encN, Go.Sort.grow_empty] at this
    refine ⟨rfl, this, ?_⟩
    have := grownBy_sortedI (w := w) (g := g) (n := q) (os := #[]) (ints l.reverse).toArray
    rwa [Go.Sort.grow_empty] at this

set_option maxHeartbeats 400000 in
theorem post_1 (k S sb n : Nat) (seen : List Bool) (w : World) (hk : k < n) (hn : seen.length = n) (hs : w.heap[S]? = some (.cells (seen.map Value.bool).toArray 4 (0, 0))) (hb : w.cell? ⟨sb, 0, none⟩ = some (.slice (some ⟨S, 0, none⟩) n n)) (hn2 : n ≤ 65536) :
    Calls Tryz.prog 117 #[.int .i64 k, .pointer (some ⟨sb, 0, none⟩)] w fun e w' => e = .returned (.bool (!(seen.getD k false))) ∧ w = w' := by
  have hkl : k < seen.length := by omega
  have hc : w.cell? ⟨S, k, none⟩ = some (.bool (seen.getD k false)) := by
    rw [(blk_facts hs).1]
    simp [hkl, List.getD]
  generalize seen.getD k false = b at hc ⊢
  clear hs hn hkl
  go_enter Tryz.func117, Tryz.ntmps117
  go_wp2
  go_ret
  exact ⟨rfl, rfl⟩
theorem enters_post_1 : ∀ args w, (callFunc 117 args).run Tryz.prog w = .ok (.enter 117 args) w := enters_of Tryz.func117 (by kernel_rfl) rfl

def PostOut (g : Gph) (root : Nat) (w : World) (e : Ending) (w' : World) : Prop := ∃ (v : Value) (order : List Nat), e = .returned v ∧ PostOk g root order ∧ w'.ownsRow w.heap.size 3 1 v order.length (order.map encN) ∧ (∀ x ∈ order, x < g.length) ∧ Below w.heap.size w w'

/-- The walk's memory. -/
structure PS (h n : Nat) (w1 W : World) (seen : List Bool) (v7 : Value) (way : List Nat) (v8 : Value) (left : List Nat) : Prop where
  bs : W.heap[h]? = some (.cells (seen.map Value.bool).toArray 4 (0, 0))
  box : W.heap[h + 1]? = some (.cells #[.slice (some ⟨h, 0, none⟩) n n] 55 (0, 0))
  way : W.ownsRow (h + 1 + 1) 3 1 v7 way.length (way.map encN)
  left : W.ownsRow (h + 1 + 1) 3 1 v8 left.length (left.map encN)
  ne : v7.ownBlock = none ∨ v7.ownBlock ≠ v8.ownBlock
  low : Below h w1 W
theorem PInv.lt {g : Gph} {root : Nat} {seen : List Bool} {way left : List Nat} (h : PInv g root seen way left) {x : Nat} (hx : x ∈ left ++ way.reverse) : x < g.length := by
  have := (List.getElem?_eq_some_iff.1 ((h.seen x).2 hx)).1
  rwa [h.len] at this
theorem PInv.size {g : Gph} {root : Nat} {seen : List Bool} {way left : List Nat} (h : PInv g root seen way left) : left.length + way.length ≤ g.length := by
  have := h.nodup.length_le_of_subset (l₂ := List.range g.length) (fun x hx => List.mem_range.2 (h.lt hx))
  simpa using this

def PRel (g : Gph) (root h : Nat) (w1 : World) (m : Nat) (A7 : Option Addr) (n7 c7 : Nat) (A8 : Option Addr) (n8 c8 : Nat) (W : World) : Prop :=
  ∃ seen way left, way.length = n7 ∧ left.length = n8 ∧ PS h g.length w1 W seen (.slice A7 n7 c7) way (.slice A8 n8 c8) left ∧ PInv g root seen way left ∧ 2 * cf seen + way.length ≤ m
theorem cf_le' (l : List Bool) : cf l ≤ l.length := List.count_le_length
theorem idx_cases {α : Type} (p : α → Bool) (l : List α) : (∀ x ∈ l, p x = false) ∨ ∃ j x, l[j]? = some x ∧ p x = true ∧ idxOf p l = (j : Nat) := by
  unfold idxOf
  cases h : l.findIdx? p with
  | none => exact .inl (by simpa using h)
  | some j =>
    obtain ⟨hj, h1, _⟩ := List.findIdx?_eq_some_iff_getElem.1 h
    exact .inr ⟨j, l[j], List.getElem?_eq_getElem hj, h1, rfl⟩

set_option maxRecDepth 100000 in
set_option maxHeartbeats 2000000 in
theorem post_any (v : Value) (g : Gph) (root : Nat) (B : Nat) (w : World) (hB : B ≤ w.heap.size) (h : GraphAt w B v g) (hok : GOk g) (hroot : root < g.length) :
    Calls Tryz.prog 59 #[v, .int .i64 root] w fun e w' => PostOut g root w e w' := by
  have hlen := hok.len
  have hmk := run_mkBools g.length hlen
  have hno := norm_any v g B w hB h hok
  obtain ⟨A, c, rfl, hm, hlc, hcm, hA⟩ := h.open_
  have q1 : decide ((root : Int) < 0) = false := by simp
  have q2 : decide ((root : Int) ≥ g.length) = false := by simp; omega
  have q3 : decide (g.length ≤ root) = false := by simp; omega
  clear h hA
  go_enter Tryz.func59, Tryz.ntmps59
  go_wp2_with (go_at_call 57; refine hno.mono ?_; rintro e w1 ⟨v1, rfl, ⟨S, rfl, hS, hN⟩, hb1⟩)
  obtain ⟨wo, hwo⟩ : ∃ wo : World, wo = ((w1.alloc (.cells ((Array.replicate g.length (.bool false)).setIfInBounds root (.bool true)) 4)).alloc (.cells #[.slice (some ⟨w1.heap.size, 0, none⟩) g.length g.length] 55)).alloc (.cells #[.int .i64 root] 3) := ⟨_, rfl⟩
  have hP0 : PRel g root w1.heap.size w1 (2 * g.length) (some ⟨w1.heap.size + 1 + 1, 0, none⟩) 1 1 none 0 0 wo := by
    have a0 := World.alloc_heap_new w1 (.cells ((Array.replicate g.length (.bool false)).setIfInBounds root (.bool true)) 4)
    have a1 := World.alloc_heap_new (w1.alloc (.cells ((Array.replicate g.length (.bool false)).setIfInBounds root (.bool true)) 4)) (.cells #[.slice (some ⟨w1.heap.size, 0, none⟩) g.length g.length] 55)
    have a2 := World.alloc_heap_new ((w1.alloc (.cells ((Array.replicate g.length (.bool false)).setIfInBounds root (.bool true)) 4)).alloc (.cells #[.slice (some ⟨w1.heap.size, 0, none⟩) g.length g.length] 55)) (.cells #[.int .i64 root] 3)
    simp only [World.size_alloc] at a1 a2
    refine ⟨(List.replicate g.length false).set root true, [root], [], rfl, rfl, ⟨?_, ?_, ?_, World.ownsRow_nil _ _ _ _, .inr (by simp [Value.ownBlock]), ?_⟩, PInv.start g root hroot, ?_⟩
    · rw [hwo, List.map_set, List.map_replicate, ← List.setIfInBounds_toArray, List.toArray_replicate]; exact seen_alloc (seen_alloc a0 _) _
    · rw [hwo]; exact seen_alloc a1 _
    · rw [hwo]; exact ⟨by simp, .inr ⟨_, 1, #[.int .i64 root], rfl, Nat.le_refl _, a2, by simp, by simp [maxLen], by simp, by simp [encN]⟩⟩
    · rw [hwo]; exact (((Below.refl w1.heap.size w1).alloc (Nat.le_refl _) _).alloc (by simp) _).alloc (by simp; omega) _
    · have := cf_set (l := List.replicate g.length false) (k := root) (by simp [hroot])
      have := cf_le' (List.replicate g.length false)
      simp at *
      omega
  have hN0 := Lib.hid hN
  have Hb1 := Lib.hid hb1
  have hSl := hN.lt
  rw [← hwo]
  clear hwo hmk hno hN hb1
  go_loopg [7, 8] (2 * g.length) (fun m s7 s8 wr => ∃ A7 n7 c7 A8 n8 c8, s7 = .slice A7 n7 c7 ∧ s8 = .slice A8 n8 c8 ∧ Hid (PRel g root w1.heap.size w1 m A7 n7 c7 A8 n8 c8 wr))
  case atStart => exact ⟨_, _, _, _, _, _, rfl, rfl, hP0⟩
  case round =>
    obtain ⟨A7, n7, c7, A8, n8, c8, rfl, rfl, hR⟩ := hrel
    obtain ⟨seen, way, left, h7, rfl, hS2, hI, hM⟩ := hR.out
    have hsz := hI.size
    clear hP0 hR
    rcases List.eq_nil_or_concat way with rfl | ⟨wy, i, e⟩
    · obtain rfl : n7 = 0 := h7.symm
      have hrev := reverseInts_own hS2.left
      have HS := Lib.hid hS2
      have HI := Lib.hid hI
      clear hS2 hI hM
      go_wp2_with fail
      refine hrev.mono ?_
      rintro e w' ⟨rfl, ho, hg⟩
      go_wp2_with fail
      go_ret
      have hle : w.heap.size ≤ w1.heap.size := Hb1.out.size
      refine ⟨_, left.reverse, rfl, HI.out.over, owns_base (by rw [List.length_reverse]; exact ho) (by omega), fun x hx => HI.out.lt (by simpa using hx), ?_⟩
      exact Hb1.out.trans ((grown_below HS.out.low hg (by have := HS.out.low.size; omega) (fun r e => by have := (HS.out.left.lt r e).1; omega)).mono hle)
    · rw [List.concat_eq_append] at e
      subst e
      obtain rfl : n7 = wy.length + 1 := by rw [← h7]; simp
      have ho7 := hS2.way
      simp only [List.length_append, List.length_cons, List.length_nil, Nat.zero_add] at ho7 hsz hS2
      obtain ⟨_, _, e7, hd1, hd2, _, _⟩ := owns_slice ho7
      injection e7 with e71 e72 e73
      subst e71; subst e73; clear e72
      obtain ⟨b, rfl, hb1, hb2, hci⟩ := owns_at (k := wy.length) (x := i) ho7 (by simp)
      have hil : i < g.length := hI.lt (by simp)
      have hx : g[i]? = some g[i] := List.getElem?_eq_getElem hil
      generalize g[i] = r at hx
      have hrow := row_of hx
      have hrm : r ∈ g := List.mem_of_getElem? hx
      have hrl := hok.rowLen hrm
      obtain ⟨v1, c1, _, ho1⟩ := hN0.out.read hx
      obtain ⟨A1, d1, rfl, _, _, _, hA1⟩ := owns_slice ho1
      have hr0 := nats_of_own ho1 (fun x hx => by have := hok.lt r hrm x hx; omega)
      have c1' := cur hS2.low hSl c1
      have hr1 := hr0.below natR.keeps hS2.low (Nat.le_refl _)
      have hlow := hS2.low.size
      have hbox := seen_lt hS2.box
      obtain ⟨x1, x2⟩ := blk_facts hS2.box
      have hcI := indexFunc_nat_in (.slice A1 r.length d1) r 117 #[.pointer (some ⟨w1.heap.size + 1, 0, none⟩)] wr w1.heap.size (fun k => !(seen.getD k false)) hlow hr1 enters_post_1
        (fun k W hW hk => (post_1 k w1.heap.size (w1.heap.size + 1) g.length seen W (hok.lt r hrm k hk) hI.len ((hW.block _ (by omega)).trans hS2.bs) ((hW.cell (p := ⟨w1.heap.size + 1, 0, none⟩) hbox).trans (x1 0)) hlen).mono fun e w' ⟨he, hw⟩ => ⟨he, hw ▸ hW⟩)
      have hd3 : wy.length ≤ c7 := by omega
      rcases idx_cases (fun k => !(seen.getD k false)) r with hall | ⟨j, k, hj, hk, hidx⟩
      · rw [idxOf_none hall] at hcI
        have hI2 := hI.pop (fun k hk => by
          have h1 := hall k (by rwa [hrow] at hk)
          have h2 : k < seen.length := by rw [hI.len]; rw [hrow] at hk; exact hok.lt r hrm k hk
          simp only [List.getD, List.getElem?_eq_getElem h2, Option.getD_some, Bool.not_eq_false'] at h1
          rw [List.getElem?_eq_getElem h2, h1])
        have HS := Lib.hid hS2
        have HI := Lib.hid hI2
        have HM := Lib.hid hM
        have c3 : ∀ W : World, (W.alloc (.cells #[.int .i64 i] 3)).cell? ⟨W.heap.size, 0, none⟩ = some (.int .i64 i) := fun W => by simp
        clear hS2 hI hI2 hM ho7 hr0 hr1 ho1 c1 hA1 hx hall x1 x2 h7 hrow
        repeat go_step
        refine hcI.mono ?_
        rintro e W2 ⟨rfl, hbw⟩
        have ho8 := (HS.out.left.kept (below_grown hbw) (by cases (Value.slice A8 left.length c8).ownBlock <;> simp)).alloc (.cells #[.int .i64 i] 3)
        have hsz2 := hbw.size
        have c4 := c3 W2
        clear c3
        go_wp2_with (refine wpList_pushNat rfl _ _ rfl (w1.heap.size + 1 + 1) _ left rfl ho8 W2.heap.size i rfl c4 (by omega) (by simp; omega) ?_; intro G cap W3 ho9 hg3 hor)
        go_roundg (gk - 1)
        case measure => have := HM.out; simp at this; omega
        case rel =>
          have hgw : W2.grownBy W3 (Value.slice A8 left.length c8).ownBlock := grown_trans (World.grownBy_alloc W2 _ _) hg3
          have hgr : wr.grownBy W3 (Value.slice A8 left.length c8).ownBlock := grown_trans (grown_but (below_grown hbw) _) hgw
          have hlt8 := HS.out.left.lt
          have hne : (Value.slice (some ⟨b, 0, none⟩) wy.length c7).ownBlock = none ∨ (Value.slice (some ⟨b, 0, none⟩) wy.length c7).ownBlock ≠ (Value.slice A8 left.length c8).ownBlock := HS.out.ne
          refine ⟨_, _, _, _, _, _, rfl, rfl, seen, wy, left ++ [i], rfl, by simp, ⟨?_, ?_, ?_, ho9, ?_, ?_⟩, HI.out, by have := HM.out; simp at this ⊢; omega⟩
          · exact (hgr.block _ (by omega) (fun e => by have := (hlt8 _ e.symm).1; omega)).trans HS.out.bs
          · exact (hgr.block _ (by omega) (fun e => by have := (hlt8 _ e.symm).1; omega)).trans HS.out.box
          · have hp : wr.ownsRow (w1.heap.size + 1 + 1) 3 1 (.slice (some ⟨b, 0, none⟩) wy.length c7) wy.length (wy.map encN) := owns_prefix (by have := HS.out.way; simp only [List.length_append, List.length_cons, List.length_nil, Nat.zero_add, List.map_append] at this; exact this) (by simp)
            exact hp.kept hgr hne
          · right
            rcases hor with h1 | h1
            · have h1' : (Value.slice A8 left.length c8).ownBlock = some G := h1
              rw [h1'] at hne
              exact hne.resolve_left (by simp [Value.ownBlock])
            · subst h1; simp [Value.ownBlock]; omega
          · exact grown_below HS.out.low hgr hlow (fun r e => by have := (hlt8 r e).1; omega)
      · have hjl := (List.getElem?_eq_some_iff.1 hj).1
        have hkm : k ∈ r := List.mem_of_getElem? hj
        have hkl := hok.lt r hrm k hkm
        rw [hidx] at hcI
        have hkf : seen[k]? = some false := by
          have h2 : k < seen.length := by rw [hI.len]; exact hkl
          simp only [List.getD, List.getElem?_eq_getElem h2, Option.getD_some, Bool.not_eq_true'] at hk
          rw [List.getElem?_eq_getElem h2, hk]
        have hI2 := hI.push (by rw [hrow]; exact hkm) hkf
        obtain ⟨b1, rfl, hb3, hb4, hcj⟩ := owns_at ho1 hj
        have hcj' := cur hS2.low hb4 hcj
        have hsc : wr.cell? ⟨w1.heap.size, k, none⟩ = some (.bool false) := by
          rw [(blk_facts hS2.bs).1]
          simp [hkf]
        have hsf := (blk_facts hS2.bs).2 k
        have hxf := x2 0
        have hx0 := x1 0
        have HS := Lib.hid hS2
        have HI := Lib.hid hI2
        have HM := Lib.hid hM
        have Hkf := Lib.hid hkf
        have q5 : ¬ ((j : Int) < 0) := by omega
        have q6 : decide ((j : Int) < 0) = false := by simp
        clear hS2 hI hI2 hM hr0 hr1 ho1 c1 hA1 hx x1 x2 hcj hkf hk hj ho7 hidx h7 hrow
        repeat go_step
        refine hcI.mono ?_
        rintro e W2 ⟨rfl, hbw⟩
        have d0 := cur hbw (by omega) c1'
        have d2 := cur hbw (by omega) hcj'
        have d3 := cur hbw (by omega) hsc
        have d4 := (hbw.frozen (p := ⟨w1.heap.size, k, none⟩) (by simp; omega)).trans hsf
        have d5 := cur hbw (by omega) hx0
        clear c1' hcj' hsc hsf hx0 hxf
        go_upto_region 14 with (fail)
        go_region
        have ho7 := HS.out.way
        simp only [List.length_append, List.length_cons, List.length_nil, Nat.zero_add] at ho7
        obtain ⟨W3, hW3⟩ : ∃ W3 : World, W3 = (W2.setCell ⟨w1.heap.size, k, none⟩ (.bool true)).drew := ⟨_, rfl⟩
        have hg3 : W2.grownBy W3 (some w1.heap.size) := by rw [hW3]; exact grown_drew (grown_setRow (World.grownBy.refl _ _) rfl _)
        have hsz2 := hbw.size
        have hsz3 := hg3.size
        have ho9 := ((ho7.kept (below_grown hbw) (by cases (Value.slice (some ⟨b, 0, none⟩) (wy.length + 1) c7).ownBlock <;> simp)).kept hg3 (.inr (by simp [Value.ownBlock]; omega)))
        have d7 : W3.cell? ⟨S, i, none⟩ = some (.slice (some ⟨b1, 0, none⟩) r.length d1) := (World.cell?_of_block (hg3.block _ (by simp; omega) (by simp; omega))).trans d0
        have d8 : W3.cell? ⟨b1, j, none⟩ = some (.int .i64 k) := (World.cell?_of_block (hg3.block _ (by simp; omega) (by simp; omega))).trans d2
        have hblk3 : W3.heap[w1.heap.size]? = some (.cells ((seen.set k true).map Value.bool).toArray 4 (0, 0)) := by
          rw [hW3, show ((seen.set k true).map Value.bool).toArray = ((seen.map Value.bool).toArray).setIfInBounds k (.bool true) by simp [List.map_set]]
          exact setB_blk ((hbw.block _ (by omega)).trans HS.out.bs) k _
        have ho10 := ho9.alloc (.cells #[.int .i64 k] 3)
        have c4 : (W3.alloc (.cells #[.int .i64 k] 3)).cell? ⟨W3.heap.size, 0, none⟩ = some (.int .i64 k) := by simp
        have ho12 : (W3.alloc (.cells #[.int .i64 k] 3)).ownsRow (w1.heap.size + 1 + 1) 3 1 (.slice (some ⟨b, 0, none⟩) (wy.length + 1) c7) (wy ++ [i]).length ((wy ++ [i]).map encN) := by
          rw [List.length_append]; exact ho10
        have hll : (wy ++ [i]).length ≤ 1099511627776 := by rw [List.length_append, List.length_singleton]; omega
        have hl3 : w1.heap.size + 1 + 1 ≤ (W3.alloc (.cells #[.int .i64 k] 3)).heap.size := by rw [World.size_alloc]; omega
        have Hll := Lib.hid hll
        have Hl3 := Lib.hid hl3
        clear hll hl3 ho10
        rw [← hW3]
        clear hW3 d0 d2 d3 d4 d5 hci ho7 ho9 q5 q6
        go_wp2_with (refine wpList_pushNat rfl _ _ rfl (w1.heap.size + 1 + 1) _ (wy ++ [i]) rfl ho12 W3.heap.size k rfl c4 Hll.out Hl3.out ?_; intro G cap W4 ho11 hg4 hor)
        go_roundg (gk - 1)
        case measure => have := HM.out; simp at this; omega
        case rel =>
          have hgw : W3.grownBy W4 (Value.slice (some ⟨b, 0, none⟩) (wy.length + 1) c7).ownBlock := grown_trans (World.grownBy_alloc W3 _ _) hg4
          have ho13 := ho11
          rw [show (wy ++ [i]).length + 1 = wy.length + 1 + 1 by simp] at ho13
          have hlt8 := HS.out.left.lt
          have hne : (Value.slice (some ⟨b, 0, none⟩) (wy.length + 1) c7).ownBlock = none ∨ (Value.slice (some ⟨b, 0, none⟩) (wy.length + 1) c7).ownBlock ≠ (Value.slice A8 left.length c8).ownBlock := HS.out.ne
          have hne' : (Value.slice A8 left.length c8).ownBlock = none ∨ (Value.slice A8 left.length c8).ownBlock ≠ (Value.slice (some ⟨b, 0, none⟩) (wy.length + 1) c7).ownBlock := .inr fun e => (hne.resolve_left (by simp [Value.ownBlock])) e.symm
          have hbx : ∀ (x : Nat) (o : Obj), x < w1.heap.size + 1 + 1 → x ≠ w1.heap.size → wr.heap[x]? = some o → W4.heap[x]? = some o := fun x o h1 h2 h3 =>
            (hgw.block x (by omega) (fun e => by simp [Value.ownBlock] at e; omega)).trans ((hg3.block x (by omega) (fun e => by simp at e; omega)).trans ((hbw.block x (by omega)).trans h3))
          refine ⟨_, _, _, _, _, _, rfl, rfl, seen.set k true, wy ++ [i] ++ [k], left, by simp, rfl, ⟨?_, ?_, ho13, ?_, ?_, ?_⟩, HI.out, ?_⟩
          · exact (hgw.block _ (by omega) (fun e => by simp [Value.ownBlock] at e; omega)).trans hblk3
          · exact hbx _ _ (by omega) (by omega) HS.out.box
          · refine ((HS.out.left.kept (below_grown hbw) (by cases (Value.slice A8 left.length c8).ownBlock <;> simp)).kept hg3 ?_).kept hgw hne'
            cases e : (Value.slice A8 left.length c8).ownBlock with
            | none => exact .inl rfl
            | some x => exact .inr (by have := (hlt8 x e).1; simp; omega)
          · right
            rcases hor with h1 | h1
            · have h1' : (Value.slice (some ⟨b, 0, none⟩) (wy.length + 1) c7).ownBlock = some G := h1
              rw [h1'] at hne
              exact hne.resolve_left (by simp)
            · subst h1
              intro e
              have := (hlt8 _ e.symm).2
              simp at this
              omega
          · have hB3 : Below w1.heap.size w1 W3 := grown_below (grown_below HS.out.low (below_grown hbw) hlow (fun r e => by cases e)) hg3 (by omega) (fun r e => by cases e; exact Nat.le_refl _)
            exact grown_below hB3 hgw (by omega) (fun r e => by simp [Value.ownBlock] at e; omega)
          · have h1 := cf_set Hkf.out
            have h2 := HM.out
            simp at h2 ⊢
            omega
end Go.Proofs.YtpemkbjbbcnddaaGreat

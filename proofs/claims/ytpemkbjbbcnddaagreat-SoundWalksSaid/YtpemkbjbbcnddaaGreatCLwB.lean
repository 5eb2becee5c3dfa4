/- The contracts of gnomonlaw11.place and gnomonlaw11.block. Conditions: the number to be rounded by is one or more; the function lies in memory. -/
import Derived.Test.YtpemkbjbbcnddaaGreatCSat
set_option linter.unusedVariables false
set_option linter.unusedSimpArgs false
set_option linter.unusedSectionVars false
namespace Go.Proofs.YtpemkbjbbcnddaaGreat
open Go.RowKit Go.Shelf

/-- A place within bounds. -/
def IsPl (n : Nat) (e : Ending) : Prop := ∃ k : Nat, k < n ∧ e = .returned (.int .i64 k)
set_option maxHeartbeats 1000000 in
theorem place_any (at_ : Int) (n : Nat) (w : World) (h1 : -9223372036854775808 ≤ at_) (h2 : at_ ≤ 9223372036854775807) (hn : 0 < n) (hn2 : n ≤ 65536) :
    Calls Tryz.prog 10 #[.int .i64 at_, .int .i64 n] w fun e w' => IsPl n e ∧ w = w' := by
  have hn0 : ((n : Int) == 0) = false := beq_eq_false_iff_ne.2 (by omega)
  have hn1 : ¬ (n : Int) = 0 := by omega
  have hb1 := Int.tmod_lt_of_pos at_ (show (0 : Int) < n by omega)
  have hb2 : -(n : Int) < at_.tmod n := by
    have := Int.lt_tmod_of_pos at_ (show (0 : Int) < n by omega)
    omega
  obtain ⟨r, hr⟩ : ∃ r, r = at_.tmod n := ⟨_, rfl⟩
  rw [← hr] at hb1 hb2
  go_enter Tryz.func10, Tryz.ntmps10
  go_upto_region 2 with (fail)
  rw [← hr]
  clear hr hn0 hn1
  by_cases h0 : r < 0
  · obtain ⟨q, hq⟩ : ∃ q : Nat, r + n = q := ⟨(r + n).toNat, by omega⟩
    have hw1 : -9223372036854775808 ≤ r + (n : Int) := by omega
    have hw2 : r + (n : Int) ≤ 9223372036854775807 := by omega
    have Hq := Lib.hid hq
    clear hq
    go_wp2
    go_ret
    exact ⟨⟨q, by have := Hq.out; omega, by rw [← Hq.out]; rfl⟩, rfl⟩
  · obtain ⟨q, rfl⟩ : ∃ q : Nat, r = q := ⟨r.toNat, by omega⟩
    go_wp2
    go_ret
    exact ⟨⟨q, by omega, rfl⟩, rfl⟩

set_option maxHeartbeats 1000000 in
theorem block_any (f : GFun) (vp vb : Value) (B : Nat) (w : World) (s : Str) (hB : B ≤ w.heap.size) (h : FunAt w B f vp vb) :
    Calls Tryz.prog 12 #[.agg #[.string ⟨f.name.toArray⟩, vp, vb], .string ⟨s.toArray⟩] w fun e w' => e = .returned (.int .i64 (idxOf (fun b => b.label == s) f.blocks)) ∧ w.grownBy w' none := by
  obtain ⟨A1, d1, rfl, m1, _, _, _⟩ := h.params.open_
  obtain ⟨A2, d2, rfl, m2, _, _, hA⟩ := h.blocks.open_
  obtain ⟨W, hW⟩ : ∃ W : World, W = w.alloc (.cells #[.string ⟨f.name.toArray⟩, .slice A1 f.params.length d1, .slice A2 f.blocks.length d2] 37) := ⟨_, rfl⟩
  have hg : w.grownBy W none := by rw [hW]; exact World.grownBy_alloc _ _ _
  have hbx : W.heap[w.heap.size]? = some (.cells #[.string ⟨f.name.toArray⟩, .slice A1 f.params.length d1, .slice A2 f.blocks.length d2] 37 (0, 0)) := by rw [hW]; exact World.alloc_heap_new _ _
  have HA := Lib.hid (hA.below blkR.keeps (grown_none hg) hB)
  have c2 : W.cell? ⟨w.heap.size, 2, none⟩ = some (.slice A2 f.blocks.length d2) := (blk_facts hbx).1 2
  have Hg := Lib.hid hg
  clear h hA hbx hg
  go_enter Tryz.func12, Tryz.ntmps12
  go_upto_region 1 with (fail)
  rw [← hW]
  clear hW
  go_wp2_with fail
  go_loopw [5] (fun s5 wr => ∃ k : Nat, k ≤ f.blocks.length ∧ s5 = .int .i64 k ∧ Hid (W = wr) ∧ Hid (∀ j, j < k → ∀ y, f.blocks[j]? = some y → (y.label == s) = false)) (fun s5 _ => f.blocks.length - (intOf s5).toNat)
  case atStart => exact ⟨0, Nat.zero_le _, rfl, Lib.hid (by first | rfl | trivial), below_zero⟩
  case round =>
    obtain ⟨k, hkl, rfl, hw, hP⟩ := hrel
    obtain rfl := hw.out
    clear hw
    by_cases hl : k < f.blocks.length
    · obtain ⟨y, b1, off1, hy, hA2e, hbB1, hr1⟩ := HA.out.at_ hl
      subst hA2e
      obtain ⟨A5, d5, hyy, m5, g0, g1⟩ := blkR_open hr1
      have Hy := Lib.hid hy
      clear hr1 hyy hy
      cases hq : y.label == s with
      | true =>
        have he : y.label = s := eq_of_beq hq
        have HR := Lib.hid (show idxOf (fun b => b.label == s) f.blocks = k from idx_hit hP.out Hy.out hq)
        subst he
        go_wp2
        go_ret
        exact ⟨by rw [HR.out]; rfl, Hg.out⟩
      | false =>
        have hq2 : ¬ y.label = s := fun e => by rw [e] at hq; simp at hq
        go_wp2
        go_roundw
        case rel => exact ⟨k + 1, by omega, by go_num, Lib.hid (by first | rfl | trivial), below_succ Hy.out hP.out hq⟩
        case measure => simp [intOf]; omega
    · have HR := Lib.hid (show idxOf (fun b => b.label == s) f.blocks = -1 from idx_miss (below_all hl hP.out))
      go_wp2
      go_ret
      exact ⟨by rw [HR.out]; rfl, Hg.out⟩
end Go.Proofs.YtpemkbjbbcnddaaGreat

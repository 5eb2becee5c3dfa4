/- The contract of names.Check. Condition: the program lies in memory. -/
import Derived.Test.YtiheiaaifdjpeaaGreatCFirst
set_option linter.unusedVariables false
set_option linter.unusedSimpArgs false
set_option linter.unusedSectionVars false
set_option maxHeartbeats 2000000
set_option maxRecDepth 100000
namespace Go.Proofs.YtiheiaaifdjpeaaGreat
open Go.RowKit
def wrongC (r : Nat × GPt) : Array Value := #[.int .u8 r.1, .int .i64 r.2.1, .int .i64 r.2.2.1, .int .i64 r.2.2.2]
def wrongV (r : Nat × GPt) : Value := .agg (wrongC r)
theorem chk_none {p : GProg} (h : ∀ r, 1 ≤ r → r ≤ 16 → ruleAt p r = none) : namesChk p = (0, (0, 0, 0)) := by
 unfold namesChk
 rw [firstFrom_none]
 ·rfl
 ·intro j x hj
  have hj' := (List.getElem?_eq_some_iff.1 hj).1
  rw [h (1 + j) (by omega) (by simp at hj'; omega)]
  rfl
theorem chk_some {p : GProg} {r : Nat} {pt : GPt} (h1 : 1 ≤ r) (h2 : r ≤ 16) (hb : ∀ j, 1 ≤ j → j < r → ruleAt p j = none) (h : ruleAt p r = some pt) : namesChk p = (r, pt) := by
 unfold namesChk
 rw [firstFrom_some (n := r - 1) (x := r - 1) (r := (r, pt))]
 ·rfl
 ·intro j hj y _
  rw [hb (1 + j) (by omega) (by omega)]
  rfl
 ·rw [List.getElem?_range (by omega)]
 ·rw [show 1 + (r - 1) = r by omega, h]
  rfl
theorem namesCheck_any (p : GProg) (vp : Value) (B : Nat) (w : World) (hB : B ≤ w.heap.size) (h : ProgAt w B vp p) :
  Calls Tryz.prog 81 #[.agg #[vp]] w fun e w' => e = .returned (wrongV (namesChk p)) ∧ w.grownBy w' none := by
 have hP := h
 obtain ⟨A, c, rfl, hm, hlc, hcm, hA⟩ := h.open_
 have HP := Lib.hid hP
 clear h hA hP
 go_enter Tryz.func81, Tryz.ntmps81
 go_wp2
 obtain ⟨w1, hw1⟩ : ∃ w1 : World, w1 = (w.alloc (.cells #[.slice A p.length c] 24)).alloc (.cells #[.int .u8 0, .int .i64 0, .int .i64 0, .int .i64 0] 87) := ⟨_, rfl⟩
 have hs1 : w1.heap.size = w.heap.size + 2 := by rw [hw1]; simp
 have hg1 : w.grownBy w1 none := by rw [hw1]; exact grown_alloc (World.grownBy_alloc w _ none) _
 have hp1 : w1.heap[w.heap.size]? = some (.cells #[.slice A p.length c] 24 (0, 0)) := by rw [hw1]; exact seen_alloc (World.alloc_heap_new w _) _
 have hr1 : w1.heap[w.heap.size + 1]? = some (.cells #[.int .u8 0, .int .i64 0, .int .i64 0, .int .i64 0] 87 (0, 0)) := by
  have := World.alloc_heap_new (w.alloc (.cells #[.slice A p.length c] 24)) (.cells #[.int .u8 0, .int .i64 0, .int .i64 0, .int .i64 0] 87)
  simp only [World.size_alloc] at this
  rw [hw1]; exact this
 rw [← hw1]
 clear hw1
 go_loopw [3] (fun s3 wr => ∃ r : Nat, 1 ≤ r ∧ r ≤ 17 ∧ s3 = .int .u8 r ∧ Hid (w1.grownBy wr none) ∧ Hid (∀ j, 1 ≤ j → j < r → ruleAt p j = none)) (fun s3 _ => 17 - (intOf s3).toNat)
 case atStart => exact ⟨1, Nat.le_refl _, by omega, rfl, World.grownBy.refl _ _, fun j h1 h2 => by omega⟩
 case round =>
  obtain ⟨r, hr1', hr2, rfl, hg, hN⟩ := hrel
  have hgw := grown_trans hg1 hg.out
  have hp2 : wr.cell? ⟨w.heap.size, 0, none⟩ = some (.slice A p.length c) := (blk_facts ((hg.out.block _ (by omega) (by simp)).trans hp1)).1 0
  have hszr := hg.out.size
  by_cases hl : r ≤ 16
  ·have hcall := first_any r hr1' hl p (.slice A p.length c) B wr (by omega) (HP.out.below funR.keeps (grown_none hgw) hB)
   have Hgw := Lib.hid hgw
   have Hr1 := Lib.hid ((hg.out.block _ (by omega) (by simp)).trans hr1)
   cases hra : ruleAt p r with
   | none =>
    rw [hra] at hcall
    simp only [ptV, ptC, Option.isSome_none] at hcall
    have Hra := Lib.hid hra
    clear hra hgw
    repeat go_step
    refine hcall.mono ?_
    rintro e w2 ⟨rfl, hg2⟩
    go_wp2
    go_roundw
    case rel => exact ⟨r + 1, by omega, by omega, by go_num, grown_alloc (grown_trans hg.out hg2) _, fun j h1 h2 => by
     by_cases e : j = r
     ·subst e; exact Hra.out
     ·exact hN.out j h1 (by omega)⟩
    case measure => simp [intOf]; omega
   | some pt =>
    obtain ⟨p1, p2, p3⟩ := pt
    rw [hra] at hcall
    simp only [ptV, ptC, Option.isSome_some] at hcall
    have Hra := Lib.hid hra
    clear hra hgw
    repeat go_step
    refine hcall.mono ?_
    rintro e w2 ⟨rfl, hg2⟩
    have hsz2 := hg2.size
    have h3 := (hg2.block _ (by omega) (by simp)).trans Hr1.out
    obtain ⟨k1, k2⟩ := blk_facts h3
    clear h3
    have hne : w.heap.size + 1 ≠ w2.heap.size := by omega
    have hlt2 : w.heap.size + 1 < w2.heap.size := by omega
    go_wp2
    refine bodyPost_ret (v := wrongV (r, (p1, p2, p3))) (by simp [results, Tryz.results81, go_sem, wrongV, wrongC, k1, hne, hlt2]) rfl ⟨by rw [chk_some hr1' hl hN.out Hra.out], ?_⟩
    have h6 := grown_trans Hgw.out hg2
    repeat (first | exact h6 | apply grown_alloc | refine grown_set ?_ (by simp) _)
  ·obtain rfl : r = 17 := by omega
   have HD := Lib.hid (show namesChk p = (0, (0, 0, 0)) from chk_none fun r h1 h2 => hN.out r h1 (by omega))
   have h3 := (hg.out.block _ (by omega) (by simp)).trans hr1
   obtain ⟨k1, k2⟩ := blk_facts h3
   have Hgw := Lib.hid hgw
   clear h3 hgw
   go_wp2
   refine bodyPost_ret (v := wrongV (0, (0, 0, 0))) (by simp [results, Tryz.results81, go_sem, wrongV, wrongC, k1]) rfl ⟨by rw [HD.out], ?_⟩
   repeat (first | exact Hgw.out | refine grown_set ?_ (by simp) _)
end Go.Proofs.YtiheiaaifdjpeaaGreat

/- Contracts of the rules of names that go through functions, blocks and instructions. Condition: the program lies in memory. -/
import Derived.Test.YtiheiaaifdjpeaaGreatDWlk
import Derived.Deep.QuietTactic
import Derived.BigQuiet
set_option linter.unusedVariables false
set_option linter.unusedSimpArgs false
set_option maxHeartbeats 1000000
namespace Go.Proofs.YtiheiaaifdjpeaaGreat
open Lib(hid)
open Go.RowKit
abbrev z3 : Array Value := #[.int .i64 0, .int .i64 0, .int .i64 0]
theorem Yl {w wr : World} {o : Obj} (h : (w.alloc o).grownBy wr none) : Below w.heap.size w wr := Zk (Zt h)
theorem Xl {w wr : World} {cs : Array Value} {t : TypeId} (h : (w.alloc (.cells cs t)).grownBy wr none) : wr.heap[w.heap.size]? = some (.cells cs t (0, 0)) :=
 (h.block _ (by simp) (by simp)).trans (World.alloc_heap_new w _)
theorem Y6 {w wr : World} {o : Obj} (h : (w.alloc o).grownBy wr none) : w.heap.size < wr.heap.size := by have := h.size; simp at this; omega
theorem Zfg (p : GProg) (vp vm : Value) (B wb : Nat) (w : World) (hB : B ≤ w.heap.size) (h : WalkAt w B wb p vp vm) :
  Calls Tryz.prog 117 #[.pointer (some ⟨wb, 0, none⟩)] w fun e w' => e = .returned (ptV (Ul p)) ∧ w.grownBy w' none := by
 obtain ⟨A, c, rfl, hm, hlc, hcm, hA⟩ := h.prog.open_;have c0 := h.c0;have hlt : wb < w.heap.size := by have := h.lt; omega
 have hne : wb ≠ w.heap.size := by omega
 clear h;go_enter Tryz.func117, Tryz.ntmps117;go_wp2;go_loopw [16] (fun s8 wr => ∃ k : Nat, k ≤ p.length ∧ s8 = .int .i64 k ∧ Hid ((w.alloc (.cells z3 42)).grownBy wr none) ∧ Hid (∀ j, j < k → ∀ y, p[j]? = some y → mpF j y = none)) (fun s8 _ => p.length - (intOf s8).toNat)
 case atStart => exact ⟨0, Nat.zero_le _, rfl, World.grownBy.refl _ _, Zz⟩
 case round =>
  obtain ⟨k, hkl, rfl, hg, hP⟩ := hrel;have hsz := Y6 hg.out;have hne0 : w.heap.size ≠ wr.heap.size := by omega
  have hblk := Xl hg.out;have hb := Yl hg.out
  by_cases hl : k < p.length
  ·obtain ⟨x, b, off, hx, rfl, hbB, hr⟩ := hA.at_ hl;obtain ⟨A1, d1, A2, d2, hf, m1, m2, e0, e1, e2⟩ := Yh hr;have hb' : b < w.heap.size := by omega
   have hbne : b ≠ wr.heap.size := by omega
   replace e0 := cur hb hb' e0;replace e1 := cur hb hb' e1;replace e2 := cur hb hb' e2;have Hx := hid hx;clear hx hr hb
   by_cases hp8 : 8 < x.params.length
   ·have HF := hid (show mpF k x = some (k, 0, 0) by rw [mpF, if_pos hp8]);have hp8' : (8 : Int) < x.params.length := by omega
    obtain ⟨hb1, hb2⟩ := Za hblk;clear hblk;go_wp2_with fail;refine bodyPost_ret (v := ptV (some (k, 0, 0))) (by simp [results, Tryz.results117, go_sem, ptV, ptC, hb1, hsz, hne0]) rfl ⟨?_, ?_⟩
    ·rw [Ul, Zn hP.out Hx.out HF.out]
    ·repeat (first | exact Zt hg.out | apply Zd | refine Zi ?_ _ | refine Zh ?_ (Nat.le_refl _) _)
   ·have HF := hid (show mpF k x = Zp x.blocks (mpB k) by rw [mpF, if_neg hp8]);have hp8' : ¬ (8 : Int) < x.params.length := by omega
    have Hblk := hid hblk;clear hblk;go_wp2_with fail;have hblk := Hblk.out;obtain ⟨wo, hwo⟩ : ∃ wo : World, wo = wr.alloc (.cells #[.string ⟨x.name.toArray⟩, .slice A1 x.params.length d1, .slice A2 x.blocks.length d2] 58) := ⟨_, rfl⟩
    rw [← hwo];have hgo : (w.alloc (.cells z3 42)).grownBy wo none := by rw [hwo]; repeat (first | exact hg.out | apply Zd)
    have Hgo := hid hgo;have hB2 := hf.blocks;clear hwo hgo e0 e1 e2 hblk hsz hne0 hbne;go_loopw [30] (fun s8 wi => ∃ k2 : Nat, k2 ≤ x.blocks.length ∧ s8 = .int .i64 k2 ∧ Hid ((w.alloc (.cells z3 42)).grownBy wi none) ∧ Hid (∀ j, j < k2 → ∀ y, x.blocks[j]? = some y → mpB k j y = none)) (fun s8 _ => x.blocks.length - (intOf s8).toNat)
    case atStart => exact ⟨0, Nat.zero_le _, rfl, Hgo.out, Zz⟩
    case round =>
     obtain ⟨k2, hkl2, rfl, hg2, hP2⟩ := hrel;have hsz := Y6 hg2.out;have hne0 : w.heap.size ≠ wr.heap.size := by omega
     have hblk := Xl hg2.out;have hb := Yl hg2.out
     by_cases hl2 : k2 < x.blocks.length
     ·obtain ⟨y, b2, off2, hy, rfl, hbB2, hr2⟩ := hB2.at_ hl2;obtain ⟨A3, d3, hf2, m3, e0, e1⟩ := Yg hr2;have hb2' : b2 < w.heap.size := by omega
      have hbne2 : b2 ≠ wr.heap.size := by omega
      replace e0 := cur hb hb2' e0;replace e1 := cur hb hb2' e1;have Hy := hid hy;clear hy hr2 hb;have HB := hid (show mpB k k2 y = Zp y.code (mpC k k2) from rfl);go_wp2_with fail;obtain ⟨wo2, hwo2⟩ : ∃ wo2 : World, wo2 = wr.alloc (.cells #[.string ⟨y.label.toArray⟩, .slice A3 y.code.length d3] 61) := ⟨_, rfl⟩
      rw [← hwo2];have hgo2 : (w.alloc (.cells z3 42)).grownBy wo2 none := by rw [hwo2]; repeat (first | exact hg2.out | apply Zd)
      have Hgo2 := hid hgo2;have hB3 := hf2.code;clear hwo2 hgo2 e0 e1 hblk hsz hne0 hbne2;go_loopw [38] (fun s8 wi => ∃ k3 : Nat, k3 ≤ y.code.length ∧ s8 = .int .i64 k3 ∧ Hid ((w.alloc (.cells z3 42)).grownBy wi none) ∧ Hid (∀ j, j < k3 → ∀ z, y.code[j]? = some z → mpC k k2 j z = none)) (fun s8 _ => y.code.length - (intOf s8).toNat)
      case atStart => exact ⟨0, Nat.zero_le _, rfl, Hgo2.out, Zz⟩
      case round =>
       obtain ⟨k3, hkl3, rfl, hg3, hP3⟩ := hrel;have hsz := Y6 hg3.out;have hne0 : w.heap.size ≠ wr.heap.size := by omega
       have hblk := Xl hg3.out;have hb := Yl hg3.out
       by_cases hl3 : k3 < y.code.length
       ·obtain ⟨z, b3, off3, hz, rfl, hbB3, hr3⟩ := hB3.at_ hl3;obtain ⟨A4, d4, A5, d5, hf3, m4, m5, e0, e1, e2, e3, e4, e5, e6, e7⟩ := Y8 hr3;have hb3' : b3 < w.heap.size := by omega
        have hbne3 : b3 ≠ wr.heap.size := by omega
        replace e0 := cur hb hb3' e0;replace e1 := cur hb hb3' e1;replace e2 := cur hb hb3' e2;replace e3 := cur hb hb3' e3;replace e4 := cur hb hb3' e4;replace e5 := cur hb hb3' e5;replace e6 := cur hb hb3' e6;replace e7 := cur hb hb3' e7;have Hz := hid hz;clear hz hr3 hb;obtain ⟨hb1, hb2⟩ := Za hblk;clear hblk;have hop := hf3.op;have hcl := fun w' => Yz z.op w' hop
        by_cases hq : (Yf z.op && decide (8 < z.args.length)) = true
        ·have HC := hid (show mpC k k2 k3 z = some (k, k2, k3) by rw [mpC, if_pos hq]);have q1 : Yf z.op = true := by simp at hq; exact hq.1
         have q2 : (8 : Int) < z.args.length := by simp at hq; omega
         rw [q1] at hcl;clear hq q1;go_wp2_with (go_at_call 166; refine (hcl _).mono ?_; rintro e w' ⟨rfl, rfl⟩);refine bodyPost_ret (v := ptV (some (k, k2, k3))) (by simp [results, Tryz.results117, go_sem, ptV, ptC, hb1, hsz, hne0]) rfl ⟨?_, ?_⟩
         ·rw [Ul, Zn hP.out Hx.out (HF.out.trans (Zn hP2.out Hy.out (HB.out.trans (Zn hP3.out Hz.out HC.out))))]
         ·repeat (first | exact Zt hg3.out | apply Zd | refine Zi ?_ _ | refine Zh ?_ (Nat.le_refl _) _)
        ·have HC := hid (show mpC k k2 k3 z = none by rw [mpC, if_neg hq])
         cases q1 : Yf z.op with
         | true =>
          have q2 : ¬ (8 : Int) < z.args.length := by simp [q1] at hq; omega
          rw [q1] at hcl;clear hq q1;go_wp2_with (go_at_call 166; refine (hcl _).mono ?_; rintro e w' ⟨rfl, rfl⟩);go_roundw
          case rel => exact ⟨k3 + 1, by omega, by go_num, Zd hg3.out _, Zw Hz.out hP3.out HC.out⟩
          case measure => simp [intOf]; omega
         | false =>
          rw [q1] at hcl;clear hq q1;go_wp2_with (go_at_call 166; refine (hcl _).mono ?_; rintro e w' ⟨rfl, rfl⟩);go_roundw
          case rel => exact ⟨k3 + 1, by omega, by go_num, Zd hg3.out _, Zw Hz.out hP3.out HC.out⟩
          case measure => simp [intOf]; omega
       ·have HBn := hid (HB.out.trans (Zx (Z8 hl3 hP3.out)));clear hblk;go_wp2_with fail;go_roundw
        case rel => exact ⟨k2 + 1, by omega, by go_num, hg3.out, Zw Hy.out hP2.out HBn.out⟩
        case measure => simp [intOf]; omega
     ·have HFn := hid (HF.out.trans (Zx (Z8 hl2 hP2.out)));clear hblk;go_wp2_with fail;go_roundw
      case rel => exact ⟨k + 1, by omega, by go_num, hg2.out, Zw Hx.out hP.out HFn.out⟩
      case measure => simp [intOf]; omega
  ·obtain ⟨hb1, hb2⟩ := Za hblk;go_wp2_with fail;refine bodyPost_ret (v := ptV none) (by simp [results, Tryz.results117, go_sem, ptV, ptC, hb1]) rfl ⟨?_, ?_⟩
   ·rw [Ul, Zx (Z8 hl hP.out)]
   ·repeat (first | exact Zt hg.out | apply Zd | refine Zi ?_ _ | refine Zh ?_ (Nat.le_refl _) _)
end Go.Proofs.YtiheiaaifdjpeaaGreat

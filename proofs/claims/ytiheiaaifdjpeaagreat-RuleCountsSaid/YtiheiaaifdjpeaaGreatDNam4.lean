/- Contracts of names.walk.badEnd and twiceLabel. Condition: the program lies in memory. -/
import Derived.Test.YtiheiaaifdjpeaaGreatDNam3
set_option linter.unusedVariables false
set_option linter.unusedSimpArgs false
set_option maxHeartbeats 1000000
namespace Go.Proofs.YtiheiaaifdjpeaaGreat
open Lib(hid)
open Go.RowKit
theorem Znm {w : World} {r : Nat} {x : Obj} (h : w.heap[r]? = some x) (n : Nat) : (w.drewN n).heap[r]? = some x := h
theorem Zlv (p : GProg) (vp vm : Value) (B wb : Nat) (w : World) (hB : B ≤ w.heap.size) (h : WalkAt w B wb p vp vm) :
  Calls Tryz.prog 122 #[.pointer (some ⟨wb, 0, none⟩)] w fun e w' => e = .returned (ptV (Zbh p)) ∧ w.grownBy w' none := by
 obtain ⟨A, c, rfl, hm, hlc, hcm, hA⟩ := h.prog.open_;have c0 := h.c0;have hlt : wb < w.heap.size := by have := h.lt; omega
 have hne : wb ≠ w.heap.size := by omega
 clear h;go_enter Tryz.func122, Tryz.ntmps122;go_wp2;go_loopw [16] (fun s8 wr => ∃ k : Nat, k ≤ p.length ∧ s8 = .int .i64 k ∧ Hid ((w.alloc (.cells z3 42)).grownBy wr none) ∧ Hid (∀ j, j < k → ∀ y, p[j]? = some y → beF j y = none)) (fun s8 _ => p.length - (intOf s8).toNat)
 case atStart => exact ⟨0, Nat.zero_le _, rfl, World.grownBy.refl _ _, Zz⟩
 case round =>
  obtain ⟨k, hkl, rfl, hg, hP⟩ := hrel;have hsz := Y6 hg.out;have hne0 : w.heap.size ≠ wr.heap.size := by omega
  have hblk := Xl hg.out;have hb := Yl hg.out
  by_cases hl : k < p.length
  ·obtain ⟨x, b, off, hx, rfl, hbB, hr⟩ := hA.at_ hl;obtain ⟨A1, d1, A2, d2, hf, m1, m2, e0, e1, e2⟩ := Yh hr;have hb' : b < w.heap.size := by omega
   have hbne : b ≠ wr.heap.size := by omega
   replace e0 := cur hb hb' e0;replace e1 := cur hb hb' e1;replace e2 := cur hb hb' e2;have Hx := hid hx;clear hx hr hb;have HF := hid (show beF k x = Zp x.blocks (beB k) from rfl);have Hblk := hid hblk;clear hblk;go_wp2_with fail;have hblk := Hblk.out;obtain ⟨wo, hwo⟩ : ∃ wo : World, wo = wr.alloc (.cells #[.string ⟨x.name.toArray⟩, .slice A1 x.params.length d1, .slice A2 x.blocks.length d2] 58) := ⟨_, rfl⟩
   rw [← hwo];have hgo : (w.alloc (.cells z3 42)).grownBy wo none := by rw [hwo]; repeat (first | exact hg.out | apply Zd)
   have Hgo := hid hgo;have hB2 := hf.blocks;clear hwo hgo e0 e1 e2 hblk hsz hne0 hbne;go_loopw [24] (fun s8 wi => ∃ k2 : Nat, k2 ≤ x.blocks.length ∧ s8 = .int .i64 k2 ∧ Hid ((w.alloc (.cells z3 42)).grownBy wi none) ∧ Hid (∀ j, j < k2 → ∀ y, x.blocks[j]? = some y → beB k j y = none)) (fun s8 _ => x.blocks.length - (intOf s8).toNat)
   case atStart => exact ⟨0, Nat.zero_le _, rfl, Hgo.out, Zz⟩
   case round =>
    obtain ⟨k2, hkl2, rfl, hg2, hP2⟩ := hrel;have hsz := Y6 hg2.out;have hne0 : w.heap.size ≠ wr.heap.size := by omega
    have hblk := Xl hg2.out;have hb := Yl hg2.out
    by_cases hl2 : k2 < x.blocks.length
    ·obtain ⟨y, b2, off2, hy, rfl, hbB2, hr2⟩ := hB2.at_ hl2;obtain ⟨A3, d3, hf2, m3, e0, e1⟩ := Yg hr2;have hb2' : b2 < w.heap.size := by omega
     have hbne2 : b2 ≠ wr.heap.size := by omega
     replace e0 := cur hb hb2' e0;replace e1 := cur hb hb2' e1;have Hy := hid hy;clear hy hr2 hb
     by_cases hn0 : y.code.length = 0
     ·have HB := hid (show beB k k2 y = some (k, k2, 0) by rw [beB, if_pos hn0]);obtain ⟨hb1, hb2⟩ := Za hblk;have hn1 : ((y.code.length : Int) == 0) = true := beq_iff_eq.2 (by omega);clear hblk hn0;go_wp2_with fail;refine bodyPost_ret (v := ptV (some (k, k2, 0))) (by simp [results, Tryz.results122, go_sem, ptV, ptC, hb1, hsz, hne0]) rfl ⟨?_, ?_⟩
      ·rw [Zbh, Zn hP.out Hx.out (HF.out.trans (Zn hP2.out Hy.out HB.out))]
      ·repeat (first | exact Zt hg2.out | apply Zd | refine Zi ?_ _ | refine Zh ?_ (Nat.le_refl _) _)
     ·have HB := hid (show beB k k2 y = Zp y.code (beC k k2 y.code.length) by rw [beB, if_neg hn0]);have hn1 : ((y.code.length : Int) == 0) = false := beq_eq_false_iff_ne.2 (by omega);have Hblk := hid hblk;clear hblk hn0;go_wp2_with fail;have hblk := Hblk.out;obtain ⟨wo2, hwo2⟩ : ∃ wo2 : World, wo2 = wr.alloc (.cells #[.string ⟨y.label.toArray⟩, .slice A3 y.code.length d3] 61) := ⟨_, rfl⟩
      rw [← hwo2];have hgo2 : (w.alloc (.cells z3 42)).grownBy wo2 none := by rw [hwo2]; repeat (first | exact hg2.out | apply Zd)
      have Hgo2 := hid hgo2;have hB3 := hf2.code;have hbx : wo2.heap[wr.heap.size]? = some (.cells #[.string ⟨y.label.toArray⟩, .slice A3 y.code.length d3] 61 (0, 0)) := by rw [hwo2]; exact World.alloc_heap_new wr _
      have Hbx := hid hbx;clear hbx;obtain ⟨g2, hge⟩ : ∃ g2, g2 = wr.heap.size := ⟨_, rfl⟩
      rw [← hge] at Hbx ⊢;clear hge;clear hwo2 hgo2 e0 e1 hblk hsz hne0 hbne2;go_loopw [39] (fun s8 wi => ∃ k3 : Nat, k3 ≤ y.code.length ∧ s8 = .int .i64 k3 ∧ Hid ((w.alloc (.cells z3 42)).grownBy wi none) ∧ Hid (∀ j, j < k3 → ∀ z, y.code[j]? = some z → beC k k2 y.code.length j z = none) ∧ Hid (wi.heap[g2]? = some (.cells #[.string ⟨y.label.toArray⟩, .slice A3 y.code.length d3] 61 (0, 0)))) (fun s8 _ => y.code.length - (intOf s8).toNat)
      case atStart => exact ⟨0, Nat.zero_le _, rfl, Hgo2.out, Zz, Hbx.out⟩
      case round =>
       obtain ⟨k3, hkl3, rfl, hg3, hP3, hbx3⟩ := hrel;have hsz := Y6 hg3.out;have hne0 : w.heap.size ≠ wr.heap.size := by omega
       have hblk := Xl hg3.out;have hb := Yl hg3.out
       by_cases hl3 : k3 < y.code.length
       ·obtain ⟨z, b3, off3, hz, rfl, hbB3, hr3⟩ := hB3.at_ hl3;obtain ⟨A4, d4, A5, d5, hf3, m4, m5, e0, e1, e2, e3, e4, e5, e6, e7⟩ := Y8 hr3;have hb3' : b3 < w.heap.size := by omega
        have hbne3 : b3 ≠ wr.heap.size := by omega
        replace e0 := cur hb hb3' e0;replace e1 := cur hb hb3' e1;replace e2 := cur hb hb3' e2;replace e3 := cur hb hb3' e3;replace e4 := cur hb hb3' e4;replace e5 := cur hb hb3' e5;replace e6 := cur hb hb3' e6;replace e7 := cur hb hb3' e7;have Hz := hid hz;clear hz hr3 hb;obtain ⟨hb1, hb2⟩ := Za hblk;obtain ⟨hx1, hx2⟩ := Za hbx3.out;have hgl := Ze hbx3.out;have hgn : g2 ≠ wr.heap.size := by omega
        clear hblk;have hop := hf3.op;have hcl := fun w' => Zrs z.op w' hop
        by_cases hq : (J1 z.op != (decide (k3 + 1 = y.code.length))) = true
        ·have HC := hid (show beC k k2 y.code.length k3 z = some (k, k2, k3) by rw [beC, if_pos hq])
         cases q1 : J1 z.op
         all_goals
          have q2 : ((k3 : Int) == (y.code.length : Int) - 1) = !(J1 z.op) := by
           rw [q1] at hq ⊢;simp at hq ⊢;omega
          rw [q1] at hcl q2;clear hq q1;simp only [Bool.not_true, Bool.not_false] at q2;go_wp2_with fail;go_quiet ((go_at_call 171; exact Calls.quiet_of_same ((hcl _).mono fun e w' h => ⟨h.1, h.2.symm⟩)));go_wp2;refine bodyPost_ret (v := ptV (some (k, k2, k3))) (by simp [results, Tryz.results122, go_sem, ptV, ptC, hb1, hsz, hne0]) rfl ⟨?_, ?_⟩
          ·rw [Zbh, Zn hP.out Hx.out (HF.out.trans (Zn hP2.out Hy.out (HB.out.trans (Zn hP3.out Hz.out HC.out))))]
          ·repeat (first | exact Zt hg3.out | apply Zd | refine Zi ?_ _ | refine Zh ?_ (Nat.le_refl _) _)
        ·have HC := hid (show beC k k2 y.code.length k3 z = none by rw [beC, if_neg hq])
         cases q1 : J1 z.op
         all_goals
          have q2 : ((k3 : Int) == (y.code.length : Int) - 1) = (J1 z.op) := by
           rw [q1] at hq ⊢;simp at hq ⊢;omega
          rw [q1] at hcl q2;clear hq q1;go_wp2_with fail;go_quiet ((go_at_call 171; exact Calls.quiet_of_same ((hcl _).mono fun e w' h => ⟨h.1, h.2.symm⟩)));go_wp2;go_roundw
          case rel => exact ⟨k3 + 1, by omega, by go_num, Zi (Zd hg3.out _) _, Zw Hz.out hP3.out HC.out, Znm (Zb hbx3.out _) _⟩
          case measure => simp [intOf]; omega
       ·have HBn := hid (HB.out.trans (Zx (Z8 hl3 hP3.out)));clear hblk;go_wp2_with fail;go_roundw
        case rel => exact ⟨k2 + 1, by omega, by go_num, hg3.out, Zw Hy.out hP2.out HBn.out⟩
        case measure => simp [intOf]; omega
    ·have HFn := hid (HF.out.trans (Zx (Z8 hl2 hP2.out)));clear hblk;go_wp2_with fail;go_roundw
     case rel => exact ⟨k + 1, by omega, by go_num, hg2.out, Zw Hx.out hP.out HFn.out⟩
     case measure => simp [intOf]; omega
  ·obtain ⟨hb1, hb2⟩ := Za hblk;go_wp2_with fail;refine bodyPost_ret (v := ptV none) (by simp [results, Tryz.results122, go_sem, ptV, ptC, hb1]) rfl ⟨?_, ?_⟩
   ·rw [Zbh, Zx (Z8 hl hP.out)]
   ·repeat (first | exact Zt hg.out | apply Zd | refine Zi ?_ _ | refine Zh ?_ (Nat.le_refl _) _)
theorem Kc {α β : Type} {f : α → β} {l : List α} {k : Nat} {x : α} (h : l[k]? = some x) : (l.take (k + 1)).map f = (l.take k).map f ++ [f x] := by
 rw [List.take_add_one, h]; simp
theorem Zgc (p : GProg) (vp vm : Value) (B wb : Nat) (w : World) (hB : B ≤ w.heap.size) (h : WalkAt w B wb p vp vm) :
  Calls Tryz.prog 119 #[.pointer (some ⟨wb, 0, none⟩)] w fun e w' => e = .returned (ptV (Q3 p)) ∧ w.grownBy w' none := by
 obtain ⟨A, c, rfl, hm, hlc, hcm, hA⟩ := h.prog.open_;have c0 := h.c0;have hlt : wb < w.heap.size := by have := h.lt; omega
 have hne : wb ≠ w.heap.size := by omega
 clear h;go_enter Tryz.func119, Tryz.ntmps119;go_wp2;go_loopw [15] (fun s8 wr => ∃ k : Nat, k ≤ p.length ∧ s8 = .int .i64 k ∧ Hid ((w.alloc (.cells z3 42)).grownBy wr none) ∧ Hid (∀ j, j < k → ∀ y, p[j]? = some y → tlF j y = none)) (fun s8 _ => p.length - (intOf s8).toNat)
 case atStart => exact ⟨0, Nat.zero_le _, rfl, World.grownBy.refl _ _, Zz⟩
 case round =>
  obtain ⟨k, hkl, rfl, hg, hP⟩ := hrel;have hsz := Y6 hg.out;have hne0 : w.heap.size ≠ wr.heap.size := by omega
  have hblk := Xl hg.out;have hb := Yl hg.out
  by_cases hl : k < p.length
  ·obtain ⟨x, b, off, hx, rfl, hbB, hr⟩ := hA.at_ hl;obtain ⟨A1, d1, A2, d2, hf, m1, m2, e0, e1, e2⟩ := Yh hr;have hb' : b < w.heap.size := by omega
   have hbne : b ≠ wr.heap.size := by omega
   replace e0 := cur hb hb' e0;replace e1 := cur hb hb' e1;replace e2 := cur hb hb' e2;have Hx := hid hx;clear hx hr hb;have HF := hid (show tlF k x = Zp x.blocks (tlB k x.blocks) from rfl);have Hblk := hid hblk;clear hblk;have hmm := Q5;go_wp2_with fail;have hblk := Hblk.out;clear hmm;obtain ⟨r, hr⟩ : ∃ r, r = wr.heap.size + 1 := ⟨_, rfl⟩
   rw [← hr];have hrs : w.heap.size < r := by omega
   have hsn : ((wr.alloc (.cells #[.string ⟨x.name.toArray⟩, .slice A1 x.params.length d1, .slice A2 x.blocks.length d2] 58)).alloc (Yb [])).heap[r]? = some (Yb []) := by
    have := World.alloc_heap_new (wr.alloc (.cells #[.string ⟨x.name.toArray⟩, .slice A1 x.params.length d1, .slice A2 x.blocks.length d2] 58)) (Yb []);rw [hr]; simpa using this
   obtain ⟨wo, hwo⟩ : ∃ wo : World, wo = (wr.alloc (.cells #[.string ⟨x.name.toArray⟩, .slice A1 x.params.length d1, .slice A2 x.blocks.length d2] 58)).alloc (Yb []) := ⟨_, rfl⟩
   rw [← hwo];have hgo : (w.alloc (.cells z3 42)).grownBy wo none := by rw [hwo]; repeat (first | exact hg.out | apply Zd)
   have Hgo := hid hgo;have hB2 := hf.blocks;rw [← hwo] at hsn;have Hsn := hid hsn;clear hsn hr;clear hwo hgo e0 e1 e2 hblk hsz hne0 hbne;go_loopw [24] (fun s8 wi => ∃ k2 : Nat, k2 ≤ x.blocks.length ∧ s8 = .int .i64 k2 ∧ Hid ((w.alloc (.cells z3 42)).grownBy wi none) ∧ Hid (∀ j, j < k2 → ∀ y, x.blocks[j]? = some y → tlB k x.blocks j y = none) ∧ Hid (wi.heap[r]? = some (Yb ((x.blocks.take k2).map (·.label))))) (fun s8 _ => x.blocks.length - (intOf s8).toNat)
   case atStart => exact ⟨0, Nat.zero_le _, rfl, Hgo.out, Zz, Hsn.out⟩
   case round =>
    obtain ⟨k2, hkl2, rfl, hg2, hP2, hs2⟩ := hrel;have hsz := Y6 hg2.out;have hne0 : w.heap.size ≠ wr.heap.size := by omega
    have hblk := Xl hg2.out;have hb := Yl hg2.out
    by_cases hl2 : k2 < x.blocks.length
    ·obtain ⟨y, b2, off2, hy, rfl, hbB2, hr2⟩ := hB2.at_ hl2;obtain ⟨A3, d3, hf2, m3, e0, e1⟩ := Yg hr2;have hb2' : b2 < w.heap.size := by omega
     have hbne2 : b2 ≠ wr.heap.size := by omega
     replace e0 := cur hb hb2' e0;replace e1 := cur hb hb2' e1;have Hy := hid hy;clear hy hr2 hb;obtain ⟨hb1, hb2⟩ := Za hblk;clear hblk;have hlk := fun o => Jn (Zb hs2.out o) y.label
     have hlt2 := Ze hs2.out;have hrne : r ≠ wr.heap.size := by omega
     cases hq : ((x.blocks.take k2).map (·.label)).contains y.label with
     | true =>
      have HB := hid (show tlB k x.blocks k2 y = some (k, k2, 0) by rw [tlB, if_pos hq]);rw [hq] at hlk;clear hq;go_wp2_with fail;refine bodyPost_ret (v := ptV (some (k, k2, 0))) (by simp [results, Tryz.results119, go_sem, ptV, ptC, hb1, hsz, hne0]) rfl ⟨?_, ?_⟩
      ·rw [Q3, Zn hP.out Hx.out (HF.out.trans (Zn hP2.out Hy.out HB.out))]
      ·repeat (first | exact Zt hg2.out | apply Zd | refine Zi ?_ _ | refine Zh ?_ (Nat.le_refl _) _)
     | false =>
      have HB := hid (show tlB k x.blocks k2 y = none by rw [tlB, if_neg (by rw [hq]; simp)]);rw [hq] at hlk;clear hq;go_wp2_with (at_mapUpdate; refine Vn rfl _ _ _ (.inl rfl) r ((x.blocks.take k2).map (·.label)) rfl (Zb hs2.out _) y.label rfl rfl ?_; intro w1 ht1 hs1);go_roundw
      case rel => exact ⟨k2 + 1, by omega, by go_num, ht1.grown (Zd hg2.out _) (by simp; omega), Zw Hy.out hP2.out HB.out, by rw [Kc Hy.out]; exact hs1⟩
      case measure => simp [intOf]; omega
    ·have HFn := hid (HF.out.trans (Zx (Z8 hl2 hP2.out)));clear hblk;go_wp2_with fail;go_roundw
     case rel => exact ⟨k + 1, by omega, by go_num, hg2.out, Zw Hx.out hP.out HFn.out⟩
     case measure => simp [intOf]; omega
  ·obtain ⟨hb1, hb2⟩ := Za hblk;go_wp2_with fail;refine bodyPost_ret (v := ptV none) (by simp [results, Tryz.results119, go_sem, ptV, ptC, hb1]) rfl ⟨?_, ?_⟩
   ·rw [Q3, Zx (Z8 hl hP.out)]
   ·repeat (first | exact Zt hg.out | apply Zd | refine Zi ?_ _ | refine Zh ?_ (Nat.le_refl _) _)
end Go.Proofs.YtiheiaaifdjpeaaGreat

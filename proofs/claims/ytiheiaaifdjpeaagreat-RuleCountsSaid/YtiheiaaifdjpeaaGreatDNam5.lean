/- Contracts of names.walk.twiceVar and noVar. Condition: the program lies in memory. -/
import Derived.Test.YtiheiaaifdjpeaaGreatDNam4
import Derived.Test.YtiheiaaifdjpeaaGreatDSli
set_option linter.unusedVariables false
set_option linter.unusedSimpArgs false
set_option maxHeartbeats 1000000
namespace Go.Proofs.YtiheiaaifdjpeaaGreat
open Lib(hid)
open Go.RowKit
theorem Zad {l : List GIns} {k : Nat} {z : GIns} (h : l[k]? = some z) : U9 (l.take (k + 1)) = U9 (l.take k) ++ [z.dst] := Kc h
theorem Zer {l : List GBlk} {k : Nat} {y : GBlk} (h : l[k]? = some y) : X4 (l.take (k + 1)) = X4 (l.take k) ++ U9 y.code := by
 rw [List.take_add_one, h]; simp [X4]
theorem Zgb {α : Type} {l : List α} {k : Nat} {x : α} (h : l[k]? = some x) : l.take (k + 1) = l.take k ++ [x] := by
 rw [List.take_add_one, h]; rfl
theorem Zjj (p : GProg) (vp vm : Value) (B wb : Nat) (w : World) (hB : B ≤ w.heap.size) (h : WalkAt w B wb p vp vm) :
  Calls Tryz.prog 127 #[.pointer (some ⟨wb, 0, none⟩)] w fun e w' => e = .returned (ptV (Uc p)) ∧ w.grownBy w' none := by
 obtain ⟨A, c, rfl, hm, hlc, hcm, hA⟩ := h.prog.open_;have c0 := h.c0;have hlt : wb < w.heap.size := by have := h.lt; omega
 have hne : wb ≠ w.heap.size := by omega
 clear h;go_enter Tryz.func127, Tryz.ntmps127;go_wp2;go_loopw [19] (fun s8 wr => ∃ k : Nat, k ≤ p.length ∧ s8 = .int .i64 k ∧ Hid ((w.alloc (.cells z3 42)).grownBy wr none) ∧ Hid (∀ j, j < k → ∀ y, p[j]? = some y → tvF j y = none)) (fun s8 _ => p.length - (intOf s8).toNat)
 case atStart => exact ⟨0, Nat.zero_le _, rfl, World.grownBy.refl _ _, Zz⟩
 case round =>
  obtain ⟨k, hkl, rfl, hg, hP⟩ := hrel;have hsz := Y6 hg.out;have hne0 : w.heap.size ≠ wr.heap.size := by omega
  have hblk := Xl hg.out;have hb := Yl hg.out
  by_cases hl : k < p.length
  ·obtain ⟨x, b, off, hx, rfl, hbB, hr⟩ := hA.at_ hl;obtain ⟨A1, d1, A2, d2, hf, m1, m2, e0, e1, e2⟩ := Yh hr;have hb' : b < w.heap.size := by omega
   have hbne : b ≠ wr.heap.size := by omega
   replace e0 := cur hb hb' e0;replace e1 := cur hb hb' e1;replace e2 := cur hb hb' e2;have Hx := hid hx;clear hx hr hb;have hFe : tvF k x = match Zp x.params (tvP k x.params) with | some r => some r | none => Zp x.blocks (tvB k x.params x.blocks) := rfl
   have HFe := hid hFe;clear hFe;have Hblk := hid hblk;clear hblk;have hmm := Q5;go_wp2_with fail;clear hmm;obtain ⟨g1, hge⟩ : ∃ g1, g1 = wr.heap.size := ⟨_, rfl⟩
   obtain ⟨r, hr⟩ : ∃ r, r = wr.heap.size + 1 := ⟨_, rfl⟩
   rw [← hr, ← hge];have hrs : w.heap.size < r := by omega
   have hgs : w.heap.size < g1 := by omega
   have hrg : g1 ≠ r := by omega
   obtain ⟨wp, hwp⟩ : ∃ wp : World, wp = (wr.alloc (.cells #[.string ⟨x.name.toArray⟩, .slice A1 x.params.length d1, .slice A2 x.blocks.length d2] 58)).alloc (Yb []) := ⟨_, rfl⟩
   rw [← hwp];have hsn : wp.heap[r]? = some (Yb []) := by
    have := World.alloc_heap_new (wr.alloc (.cells #[.string ⟨x.name.toArray⟩, .slice A1 x.params.length d1, .slice A2 x.blocks.length d2] 58)) (Yb []);rw [hwp, hr]; simpa using this
   have hbx : wp.heap[g1]? = some (.cells #[.string ⟨x.name.toArray⟩, .slice A1 x.params.length d1, .slice A2 x.blocks.length d2] 58 (0, 0)) := by rw [hwp, hge]; exact Zb (World.alloc_heap_new wr _) _
   have hgp : (w.alloc (.cells z3 42)).grownBy wp none := by rw [hwp]; exact Zd (Zd hg.out _) _
   have Hsn := hid hsn;have Hbx := hid hbx;have Hgp := hid hgp;have hpa := hf.params;have hB2 := hf.blocks;clear hsn hbx hgp hwp hr hge hsz hne0 hbne e0 e1 e2;go_loopw [28] (fun s8 wi => ∃ kp : Nat, kp ≤ x.params.length ∧ s8 = .int .i64 kp ∧ Hid ((w.alloc (.cells z3 42)).grownBy wi none) ∧ Hid (∀ j, j < kp → ∀ y, x.params[j]? = some y → tvP k x.params j y = none) ∧ Hid (wi.heap[r]? = some (Yb (x.params.take kp))) ∧ Hid (wi.heap[g1]? = some (.cells #[.string ⟨x.name.toArray⟩, .slice A1 x.params.length d1, .slice A2 x.blocks.length d2] 58 (0, 0)))) (fun s8 _ => x.params.length - (intOf s8).toNat)
   case atStart => exact ⟨0, Nat.zero_le _, rfl, Hgp.out, Zz, Hsn.out, Hbx.out⟩
   case round =>
    obtain ⟨kp, hklp, rfl, hgp2, hPp, hsp, hbxp⟩ := hrel;have hsz := Y6 hgp2.out;have hne0 : w.heap.size ≠ wr.heap.size := by omega
    have hblk := Xl hgp2.out;have hb := Yl hgp2.out
    by_cases hlp : kp < x.params.length
    ·obtain ⟨s, bp, offp, hs, rfl, hbBp, hcs, hsl⟩ := hpa.at1 hlp;have hbp' : bp < w.heap.size := by omega
     replace hcs := cur hb hbp' hcs;have Hs := hid hs;have hlk := Jn hsp.out s;clear hs hb;obtain ⟨hb1, hb2⟩ := Za hblk;clear hblk
     cases hq : (x.params.take kp).contains s with
     | true =>
      have HP := hid (show tvP k x.params kp s = some (k, 0, 0) by rw [tvP, if_pos hq]);rw [hq] at hlk;clear hq;go_wp2_with fail;refine bodyPost_ret (v := ptV (some (k, 0, 0))) (by simp [results, Tryz.results127, go_sem, ptV, ptC, hb1, hsz, hne0]) rfl ⟨?_, ?_⟩
      ·rw [Uc, Zn hP.out Hx.out (HFe.out.trans (by rw [Zn hPp.out Hs.out HP.out]))]
      ·repeat (first | exact Zt hgp2.out | apply Zd | refine Zi ?_ _ | refine Zh ?_ (Nat.le_refl _) _)
     | false =>
      have HP := hid (show tvP k x.params kp s = none by rw [tvP, if_neg (by rw [hq]; simp)]);rw [hq] at hlk;clear hq;go_wp2_with (at_mapUpdate; refine Vn rfl _ _ _ (.inl rfl) r (x.params.take kp) rfl hsp.out s rfl rfl ?_; intro w1 ht1 hs1);go_roundw
      case rel => exact ⟨kp + 1, by omega, by go_num, ht1.grown hgp2.out (by simp; omega), Zw Hs.out hPp.out HP.out, by rw [Zgb Hs.out]; exact hs1, (ht1.block g1 hrg).trans hbxp.out⟩
      case measure => simp [intOf]; omega
    ·have HF := hid (show tvF k x = Zp x.blocks (tvB k x.params x.blocks) by rw [HFe.out, Zx (Z8 hlp hPp.out)]);have hkp : kp = x.params.length := by omega
     have hsq := hsp.out;rw [hkp, List.take_length] at hsq;have Hsq := hid hsq;obtain ⟨hy1, hy2⟩ := Za hbxp.out;have Hgw := hid hgp2.out;clear hkp hsq hblk hb hsz hne0;go_wp2_with fail;clear hy1 hy2;go_loopw [43] (fun s8 wi => ∃ k2 : Nat, k2 ≤ x.blocks.length ∧ s8 = .int .i64 k2 ∧ Hid ((w.alloc (.cells z3 42)).grownBy wi none) ∧ Hid (∀ j, j < k2 → ∀ y, x.blocks[j]? = some y → tvB k x.params x.blocks j y = none) ∧ Hid (wi.heap[r]? = some (Yb (x.params ++ X4 (x.blocks.take k2))))) (fun s8 _ => x.blocks.length - (intOf s8).toNat)
     case atStart => exact ⟨0, Nat.zero_le _, rfl, Hgw.out, Zz, by simpa [Hid, X4] using Hsq.out⟩
     case round =>
      obtain ⟨k2, hkl2, rfl, hg2, hP2, hs2⟩ := hrel;have hsz := Y6 hg2.out;have hne0 : w.heap.size ≠ wr.heap.size := by omega
      have hblk := Xl hg2.out;have hb := Yl hg2.out
      by_cases hl2 : k2 < x.blocks.length
      ·obtain ⟨y, b2, off2, hy, rfl, hbB2, hr2⟩ := hB2.at_ hl2;obtain ⟨A3, d3, hf2, m3, e0, e1⟩ := Yg hr2;have hb2' : b2 < w.heap.size := by omega
       have hbne2 : b2 ≠ wr.heap.size := by omega
       replace e0 := cur hb hb2' e0;replace e1 := cur hb hb2' e1;have Hy := hid hy;clear hy hr2 hb;have HB := hid (show tvB k x.params x.blocks k2 y = Zp y.code (tvC k k2 (x.params ++ X4 (x.blocks.take k2)) y.code) from rfl);have Hblk := hid hblk;clear hblk;have Hs2 := hid (Zb hs2.out (.cells #[.string ⟨y.label.toArray⟩, .slice A3 y.code.length d3] 61));have hlt2 := Ze hs2.out;go_wp2_with fail;have hblk := Hblk.out;obtain ⟨wo2, hwo2⟩ : ∃ wo2 : World, wo2 = wr.alloc (.cells #[.string ⟨y.label.toArray⟩, .slice A3 y.code.length d3] 61) := ⟨_, rfl⟩
       rw [← hwo2];have hgo2 : (w.alloc (.cells z3 42)).grownBy wo2 none := by rw [hwo2]; repeat (first | exact hg2.out | apply Zd)
       have Hgo2 := hid hgo2;have hB3 := hf2.code;rw [← hwo2] at Hs2;clear hwo2 hgo2 e0 e1 hblk hsz hne0 hbne2;go_loopw [51] (fun s8 wi => ∃ k3 : Nat, k3 ≤ y.code.length ∧ s8 = .int .i64 k3 ∧ Hid ((w.alloc (.cells z3 42)).grownBy wi none) ∧ Hid (∀ j, j < k3 → ∀ z, y.code[j]? = some z → tvC k k2 (x.params ++ X4 (x.blocks.take k2)) y.code j z = none) ∧ Hid (wi.heap[r]? = some (Yb ((x.params ++ X4 (x.blocks.take k2)) ++ U9 (y.code.take k3))))) (fun s8 _ => y.code.length - (intOf s8).toNat)
       case atStart => exact ⟨0, Nat.zero_le _, rfl, Hgo2.out, Zz, by simpa [Hid, U9] using Hs2.out⟩
       case round =>
        obtain ⟨k3, hkl3, rfl, hg3, hP3, hs3⟩ := hrel;have hsz := Y6 hg3.out;have hne0 : w.heap.size ≠ wr.heap.size := by omega
        have hblk := Xl hg3.out;have hb := Yl hg3.out
        by_cases hl3 : k3 < y.code.length
        ·obtain ⟨z, b3, off3, hz, rfl, hbB3, hr3⟩ := hB3.at_ hl3;obtain ⟨A4, d4, A5, d5, hf3, m4, m5, e0, e1, e2, e3, e4, e5, e6, e7⟩ := Y8 hr3;have hb3' : b3 < w.heap.size := by omega
         have hbne3 : b3 ≠ wr.heap.size := by omega
         replace e0 := cur hb hb3' e0;replace e1 := cur hb hb3' e1;replace e2 := cur hb hb3' e2;replace e3 := cur hb hb3' e3;replace e4 := cur hb hb3' e4;replace e5 := cur hb hb3' e5;replace e6 := cur hb hb3' e6;replace e7 := cur hb hb3' e7;have Hz := hid hz;clear hz hr3 hb;obtain ⟨hb1, hb2⟩ := Za hblk;clear hblk;have hlk := fun o => Jn (Zb hs3.out o) z.dst
         have hlt2 := Ze hs3.out;have hrne : r ≠ wr.heap.size := by omega
         cases hd : z.dst.isEmpty with
         | true =>
          have HC := hid (show tvC k k2 (x.params ++ X4 (x.blocks.take k2)) y.code k3 z = none by rw [tvC, if_neg (by simp [hd])]);clear hlk;go_wp2_with (at_mapUpdate; refine Vn rfl _ _ _ (.inl rfl) r ((x.params ++ X4 (x.blocks.take k2)) ++ U9 (y.code.take k3)) rfl (Zb hs3.out _) z.dst rfl rfl ?_; intro w1 ht1 hs1);go_roundw
          case rel => exact ⟨k3 + 1, by omega, by go_num, ht1.grown (Zd hg3.out _) (by simp; omega), Zw Hz.out hP3.out HC.out, by rw [Zad Hz.out, ← List.append_assoc]; exact hs1⟩
          case measure => simp [intOf]; omega
         | false =>
          cases hq : ((x.params ++ X4 (x.blocks.take k2)) ++ U9 (y.code.take k3)).contains z.dst with
          | true =>
           have HC := hid (show tvC k k2 (x.params ++ X4 (x.blocks.take k2)) y.code k3 z = some (k, k2, k3) by rw [tvC, if_pos (by rw [hd, hq]; rfl)]);rw [hq] at hlk;clear hq;go_wp2_with fail;refine bodyPost_ret (v := ptV (some (k, k2, k3))) (by simp [results, Tryz.results127, go_sem, ptV, ptC, hb1, hsz, hne0]) rfl ⟨?_, ?_⟩
           ·rw [Uc, Zn hP.out Hx.out (HF.out.trans (Zn hP2.out Hy.out (HB.out.trans (Zn hP3.out Hz.out HC.out))))]
           ·repeat (first | exact Zt hg3.out | apply Zd | refine Zi ?_ _ | refine Zh ?_ (Nat.le_refl _) _)
          | false =>
           have HC := hid (show tvC k k2 (x.params ++ X4 (x.blocks.take k2)) y.code k3 z = none by rw [tvC, if_neg (by rw [hq]; simp)]);rw [hq] at hlk;clear hq;go_wp2_with (at_mapUpdate; refine Vn rfl _ _ _ (.inl rfl) r ((x.params ++ X4 (x.blocks.take k2)) ++ U9 (y.code.take k3)) rfl (Zb hs3.out _) z.dst rfl rfl ?_; intro w1 ht1 hs1);go_roundw
           case rel => exact ⟨k3 + 1, by omega, by go_num, ht1.grown (Zd hg3.out _) (by simp; omega), Zw Hz.out hP3.out HC.out, by rw [Zad Hz.out, ← List.append_assoc]; exact hs1⟩
           case measure => simp [intOf]; omega
        ·have HBn := hid (HB.out.trans (Zx (Z8 hl3 hP3.out)));clear hblk;go_wp2_with fail;go_roundw
         case rel => exact ⟨k2 + 1, by omega, by go_num, hg3.out, Zw Hy.out hP2.out HBn.out, by
          have hk3 : k3 = y.code.length := by omega
          have := hs3.out
          rw [hk3, List.take_length, List.append_assoc, ← Zer Hy.out] at this
          exact this⟩
         case measure => simp [intOf]; omega
      ·have HFn := hid (HF.out.trans (Zx (Z8 hl2 hP2.out)));clear hblk;go_wp2_with fail;go_roundw
       case rel => exact ⟨k + 1, by omega, by go_num, hg2.out, Zw Hx.out hP.out HFn.out⟩
       case measure => simp [intOf]; omega
  ·obtain ⟨hb1, hb2⟩ := Za hblk;go_wp2_with fail;refine bodyPost_ret (v := ptV none) (by simp [results, Tryz.results127, go_sem, ptV, ptC, hb1]) rfl ⟨?_, ?_⟩
   ·rw [Uc, Zx (Z8 hl hP.out)]
   ·repeat (first | exact Zt hg.out | apply Zd | refine Zi ?_ _ | refine Zh ?_ (Nat.le_refl _) _)
end Go.Proofs.YtiheiaaifdjpeaaGreat

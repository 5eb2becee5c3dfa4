/- The contracts of body.phiPreds and its closure. Conditions: the function is known (Body). -/
import Derived.Test.YtiheiaaifdjpeaaGreatCSru
set_option linter.unusedVariables false
set_option linter.unusedSimpArgs false
set_option linter.unusedSectionVars false
set_option maxHeartbeats 2000000
set_option maxRecDepth 100000
namespace Go.Proofs.YtiheiaaifdjpeaaGreat
open Go.RowKit Go.Shelf
theorem phiPreds_1_any (f : GFun) (b B c : Nat) (w : World) (k i : Nat) (x : GIns) (va vl : Value) (h : Body w B b f) (hB : B ≤ w.heap.size) (hc : w.cell? ⟨c, 0, none⟩ = some (.pointer (some ⟨b, 0, none⟩))) (hcl : c < w.heap.size)
  (hi : InsAt w B x va vl) (hk : k < f.blocks.length) (hn : f.blocks.length ≤ 65536) (hok : GOk (backG (succG f.blocks))) :
  Calls Tryz.prog 141 #[.int .i64 k, .int .i64 i, insA x va vl, .pointer (some ⟨c, 0, none⟩)] w fun e w' => e = .returned (.bool (phiQ f k i x)) ∧ Below w.heap.size w w' := by
 obtain ⟨A1, d1, A2, d2, S, S2, O, M, order, o, h⟩ := h
 obtain ⟨A4, d4, q4, _, _, _, _⟩ := hi.args.open_
 obtain ⟨A5, d5, q5, _, _, _, hL⟩ := hi.labels.open_
 subst q4
 subst q5
 obtain ⟨j1, _⟩ := blk_facts h.blk
 have e2 : w.cell? ⟨b, 2, none⟩ = some (.slice A2 f.blocks.length d2) := j1 2
 have e4 : w.cell? ⟨b, 4, none⟩ = some (.slice (some ⟨S2, 0, none⟩) f.blocks.length f.blocks.length) := j1 4
 obtain ⟨A2', d2', hAe, m2, hl2, hc2, hA⟩ := h.fn.blocks.open_
 simp only [Value.slice.injEq] at hAe
 obtain ⟨rfl, _, rfl⟩ := hAe
 have hlt := h.lt
 have hgl : (backG (succG f.blocks)).length = f.blocks.length := by rw [backG_length, succG_length]
 obtain ⟨l, hl⟩ : ∃ l, (backG (succG f.blocks))[k]? = some l := ⟨_, List.getElem?_eq_getElem (by rw [hgl]; exact hk)⟩
 obtain ⟨AS, dS, hAS, _, _, _, hSp⟩ := h.pred.open_
 rw [hgl] at hAS
 simp only [Value.slice.injEq] at hAS
 obtain ⟨rfl, _, rfl⟩ := hAS
 obtain ⟨l', bS, offS, hl', eS, hbS, hrS⟩ := hSp.at_ (show k < (backG (succG f.blocks)).length by omega)
 rw [hl] at hl'
 cases hl'
 cases eS
 obtain ⟨vr, hvr, hrow⟩ := hrS
 obtain ⟨AR, dR, rfl, mR, hlR, hcR, hR⟩ := hrow.open_
 have hllt : ∀ p ∈ l, p < f.blocks.length := fun p hp => by have := hok.lt l (List.mem_of_getElem? hl) p hp; rwa [hgl] at this
 have hll : l.length ≤ 65536 := hok.rowLen (List.mem_of_getElem? hl)
 have hlle := hi.labelsLe
 have hwN := World.alloc_heap_new w (.cells #[.int .u8 x.op, .string ⟨x.dst.toArray⟩, .string ⟨x.a.toArray⟩, .string ⟨x.b.toArray⟩, .int .i64 x.n, .string ⟨x.fn.toArray⟩, .slice A4 x.args.length d4, .slice A5 x.labels.length d5] 38)
 obtain ⟨W, hW⟩ : ∃ W : World, W = w.alloc (.cells #[.int .u8 x.op, .string ⟨x.dst.toArray⟩, .string ⟨x.a.toArray⟩, .string ⟨x.b.toArray⟩, .int .i64 x.n, .string ⟨x.fn.toArray⟩, .slice A4 x.args.length d4, .slice A5 x.labels.length d5] 38) := ⟨_, rfl⟩
 have hbW : Below w.heap.size w W := by rw [hW]; exact (Below.refl _ w).alloc (Nat.le_refl _) _
 have hsW : W.heap.size = w.heap.size + 1 := by rw [hW]; simp
 rw [← hW] at hwN
 have i0 : W.cell? ⟨w.heap.size, 0, none⟩ = some (.int .u8 x.op) := (blk_facts hwN).1 0
 have i7 : W.cell? ⟨w.heap.size, 7, none⟩ = some (.slice A5 x.labels.length d5) := (blk_facts hwN).1 7
 have c0' : W.cell? ⟨c, 0, none⟩ = some (.pointer (some ⟨b, 0, none⟩)) := cur hbW (by omega) hc
 have e2' : W.cell? ⟨b, 2, none⟩ = some (.slice A2 f.blocks.length d2) := cur hbW (by omega) e2
 have e4' : W.cell? ⟨b, 4, none⟩ = some (.slice (some ⟨S2, 0, none⟩) f.blocks.length f.blocks.length) := cur hbW (by omega) e4
 have f4' : W.cell? ⟨S2, k, none⟩ = some (.slice AR l.length dR) := cur hbW (by omega) (by simpa using hvr)
 have HbW := Lib.hid hbW
 have HL := Lib.hid (hi.labels.below strR.keeps hbW hB)
 have HR := Lib.hid (hrow.below natR.keeps hbW hB)
 have HA := Lib.hid (h.fn.blocks.below blkR.keeps hbW hB)
 have hlabLe : ∀ p, p < f.blocks.length → (labAt f.blocks p).length ≤ 9223372036854775807 := fun p hp => by
  obtain ⟨y, b1, off1, hy, _, _, hr1⟩ := hA.at_ hp
  obtain ⟨A3, d3, hyy, m3, e0, e1⟩ := blkR_open hr1
  have := hyy.label
  simpa [labAt, hy] using this
 have hlLe : ∀ s ∈ x.labels, s.length ≤ 9223372036854775807 := fun s hs => by
  obtain ⟨j, hj, e⟩ := List.mem_iff_getElem.1 hs
  obtain ⟨y, _, _, h1, _, _, h2⟩ := hL.at1 hj
  rw [List.getElem?_eq_getElem hj, e] at h1
  cases h1
  exact h2.2
 have Hle := Lib.hid hlabLe
 have HlLe := Lib.hid hlLe
 have Hllt := Lib.hid hllt
 have Hl := Lib.hid hl
 clear hwN hvr hrow hR hSp hA h j1 hL hi e2 e4 hc hbW hllt hok hl hlabLe hlLe
 cases q1 : x.op == 6 with
 | false =>
  have HR := Lib.hid (show phiQ f k i x = false by simp [phiQ, q1])
  have q2 := (op6 x.op).trans (congrArg not q1)
  simp only [Bool.not_true, Bool.not_false] at q2
  simp only [insA]
  go_enter Tryz.func141, Tryz.ntmps141
  go_upto_region 1 with (fail)
  rw [← hW]
  clear hW
  go_wp2
  go_ret
  exact ⟨by rw [HR.out]; rfl, HbW.out⟩
 | true =>
  have q2 := (op6 x.op).trans (congrArg not q1)
  simp only [Bool.not_true, Bool.not_false] at q2
  simp only [insA]
  go_enter Tryz.func141, Tryz.ntmps141
  go_upto_region 1 with (fail)
  rw [← hW]
  clear hW
  go_wp2
  go_loopw [24, 8] (fun s24 s8 wr => ∃ (j : Nat) (A8 : Option Addr) (c8 : Nat), s24 = .int .i64 j ∧ s8 = .slice A8 j c8 ∧ j ≤ l.length ∧ Hid (wr.ownsRow W.heap.size 9 1 (.slice A8 j c8) j (((l.take j).map (labAt f.blocks)).map encS)) ∧ Hid (Below W.heap.size W wr)) (fun s24 _ _ => l.length - (intOf s24).toNat)
  case atStart => exact ⟨0, none, 0, rfl, rfl, Nat.zero_le _, World.ownsRow_nil _ _ _ _, Below.refl _ _⟩
  case round =>
   obtain ⟨j, A8, c8, rfl, rfl, hjl, ho, hbr⟩ := hrel
   have hlow := hbr.out
   have hszr := hlow.size
   by_cases hl2 : j < l.length
   ·obtain ⟨p, bR, offR, hp, rfl, hbR, hr7⟩ := HR.out.at1 hl2
    have hplt := Hllt.out p (List.mem_of_getElem? hp)
    obtain ⟨y, b1, off1, hy, rfl, hbB1, hr1⟩ := HA.out.at_ hplt
    obtain ⟨A3, d3, hyy, m3, e0, e1⟩ := blkR_open hr1
    have hlab : labAt f.blocks p = y.label := by simp [labAt, hy]
    have c7 := cur hlow (by omega) hr7.1
    replace e0 := cur hlow (by omega) e0
    have c0w := cur hlow (by omega) c0'
    have e2w := cur hlow (by omega) e2'
    have Ho := Lib.hid (ho.out.alloc (.cells #[.string ⟨y.label.toArray⟩] 9))
    have c3 : (wr.alloc (.cells #[.string ⟨y.label.toArray⟩] 9)).cell? ⟨wr.heap.size, 0, none⟩ = some (.string ⟨y.label.toArray⟩) := (blk_facts (World.alloc_heap_new wr _)).1 0
    have htk : ((l.take (j + 1)).map (labAt f.blocks)).map encS = ((l.take j).map (labAt f.blocks)).map encS ++ [.string ⟨y.label.toArray⟩] := by
     rw [List.take_add_one, hp]; simp [hlab, encS]
    have Htk := Lib.hid htk
    have Hp := Lib.hid hp
    have hj8 : j ≤ 1099511627776 := by omega
    clear hr7 hr1 e1 hyy hy htk hp hlab
    go_wp2_with (refine wpList_push1 rfl _ _ 36 rfl W.heap.size 9 _ 16 Tryz.underlying36 strInfo rfl _ _ j rfl Ho.out wr.heap.size (.string ⟨y.label.toArray⟩) rfl rfl c3 (by unfold maxLen; omega) (by omega) (by simp; omega) ?_; intro G cap w2 ho3 hg3 hor)
    go_roundw
    case rel =>
     refine ⟨j + 1, some ⟨G, 0, none⟩, cap, by go_num, by go_num, by omega, Lib.hid (by rw [Htk.out]; exact ho3), Lib.hid ?_⟩
     exact grown_below (hbr.out.alloc (by omega) _) hg3 (by simp; omega) (fun r e => (Ho.out.lt r e).1)
    case measure => simp [intOf]; omega
   ·have hj : j = l.length := by omega
    subst hj
    rw [List.take_length] at ho
    have hLw := HL.out.below strR.keeps hlow (show B ≤ W.heap.size by omega)
    have hi7 := cur hlow (by omega) i7
    have hclo := cloneStrs_any hLw (show x.labels.length * 16 ≤ 140737488355328 by omega)
    clear hlow
    go_upto_region 10 with (fail)
    refine hclo.mono ?_
    rintro e w2 ⟨v2, rfl, ho2, hb2⟩
    obtain ⟨A9, d9, rfl, _, _, _, _⟩ := owns_slice ho2
    have ho' := ho.out.kept (below_grown hb2) (by cases A8 <;> simp [Value.ownBlock])
    have hne : ∀ g, (Value.slice A9 x.labels.length d9).ownBlock = some g → (Value.slice A8 l.length c8).ownBlock ≠ some g := fun g e e2 => by
     have h1 := (ho2.lt g e).1
     have h2 := (ho.out.lt g e2).2
     omega
    have hsz2 := hb2.size
    have hlow2 : Below w.heap.size w w2 := (HbW.out.trans (hbr.out.mono (by omega))).trans (hb2.mono (by omega))
    have Hlow2 := Lib.hid hlow2
    have Ho2 := Lib.hid ho2
    have hs1 := sortStrs_own (v := .slice A8 l.length c8) (l := l.map (labAt f.blocks)) (w := w2) (base := W.heap.size) (by rw [List.length_map]; exact ho') (by rw [List.length_map]; omega)
    have HoA := Lib.hid ho.out
    have Hbr := Lib.hid hbr.out
    clear ho' ho2 hb2 hlow2 hi7 hLw hclo ho hbr
    go_upto_region 11 with (fail)
    repeat go_step
    refine hs1.mono ?_
    rintro e w3 ⟨rfl, ho3, hg3⟩
    have ho4 := Ho2.out.kept hg3 (by
     by_cases e9 : (Value.slice A9 x.labels.length d9).ownBlock = none
     ·exact .inl e9
     ·right
      obtain ⟨g, e9⟩ := Option.ne_none_iff_exists'.1 e9
      rw [e9]
      exact fun e => hne g e9 e.symm)
    have hs2 := sortStrs_own (v := .slice A9 x.labels.length d9) (l := x.labels) (w := w3) (base := wr.heap.size) ho4 (by omega)
    have hsz3 := hg3.size
    have Hlow3 := Lib.hid (grown_below Hlow2.out hg3 (by have := Hlow2.out.size; omega) (fun r e => by have := (HoA.out.lt r e).1; omega))
    have Ho3 := Lib.hid ho3
    clear hs1 ho4 ho3 hg3
    go_upto_region 12 with (fail)
    repeat go_step
    refine hs2.mono ?_
    rintro e w4 ⟨rfl, ho5, hg4⟩
    have ho6 := Ho3.out.kept hg4 (by
     by_cases e9 : (Value.slice A8 l.length c8).ownBlock = none
     ·exact .inl e9
     ·right
      obtain ⟨g, e9⟩ := Option.ne_none_iff_exists'.1 e9
      rw [e9]
      exact fun e => hne g e.symm e9)
    have hq1 : StrsAt w4 w4.heap.size (.slice A8 l.length c8) (sortS (l.map (labAt f.blocks))) := strs_of_own (n := (l.map (labAt f.blocks)).length) ho6 (fun s hs => by
     have := (List.mem_mergeSort).1 hs
     obtain ⟨p, hp, rfl⟩ := List.mem_map.1 this
     exact Hle.out p (Hllt.out p hp))
    have hq2 : StrsAt w4 w4.heap.size (.slice A9 x.labels.length d9) (sortS x.labels) := strs_of_own (n := x.labels.length) ho5 (fun s hs => HlLe.out s ((List.mem_mergeSort).1 hs))
    have heq := equalStrs_any hq1 hq2
    have Hlow4 := Lib.hid (grown_below Hlow3.out hg4 (by have := Hlow3.out.size; omega) (fun r e => by have := (Ho2.out.lt r e).1; omega))
    have HR9 := Lib.hid (show phiQ f k i x = !(decide (sortS (l.map (labAt f.blocks)) = sortS x.labels)) by unfold phiQ wantL; rw [q1, Hl.out]; rfl)
    obtain ⟨D, hD⟩ : ∃ D : Bool, D = decide (sortS (l.map (labAt f.blocks)) = sortS x.labels) := ⟨_, rfl⟩
    rw [← hD] at heq HR9
    clear hs2 ho5 ho6 hq1 hq2 hg4 hD
    go_wp2_with (go_at_call 143; refine heq.mono ?_; rintro e w5 ⟨rfl, qn, rfl⟩)
    go_ret
    exact ⟨by rw [HR9.out]; rfl, grown_none (grown_drewN (below_grown Hlow4.out) _)⟩
theorem enters_phiPreds_1 : ∀ args w, (callFunc 141 args).run Tryz.prog w = .ok (.enter 141 args) w := enters_of Tryz.func141 (by kernel_rfl) rfl
theorem phiPreds_any (f : GFun) (b B : Nat) (w : World) (h : Body w B b f) (hB : B ≤ w.heap.size) (hn : f.blocks.length ≤ 65536) (hok : GOk (backG (succG f.blocks))) :
  Calls Tryz.prog 102 #[.pointer (some ⟨b, 0, none⟩)] w fun e w' => e = .returned (resV (findF f (phiQ f))) ∧ Below w.heap.size w w' := by
 have hb1 : Below w.heap.size w (w.alloc (.cells #[.pointer (some ⟨b, 0, none⟩)] 125)) := (Below.refl _ w).alloc (Nat.le_refl _) _
 have h1 := h.below hb1 hB
 have hN := World.alloc_heap_new w (.cells #[.pointer (some ⟨b, 0, none⟩)] 125)
 have hc0 := (blk_facts hN).1 0
 have hfind := sfind_any f b B 141 #[.pointer (some ⟨w.heap.size, 0, none⟩)] _ (phiQ f) (by simp; omega) h1 enters_phiPreds_1 (fun k i y x va vl W hy hx hW hi => by
  have := phiPreds_1_any f b B w.heap.size W k i x va vl (h1.below hW (by simp; omega)) (by have := hW.size; simp at this; omega) ((hW.cell (p := ⟨w.heap.size, 0, none⟩) (by simp)).trans hc0) (by have := hW.size; simp at this; omega) hi (List.getElem?_eq_some_iff.1 hy).1 hn hok
  exact this.mono fun e w' h => ⟨h.1, hW.trans (h.2.mono hW.size)⟩)
 obtain ⟨⟨p, q⟩, hr⟩ : ∃ r : Option (Nat × Nat) × Unit, r.1 = findF f (phiQ f) := ⟨(_, ()), rfl⟩
 rw [← hr] at hfind ⊢
 clear h h1 hr hN hc0 hb1 hok
 simp only [resV] at hfind
 go_enter Tryz.func102, Tryz.ntmps102
 go_wp2_with (go_at_call 136; refine hfind.mono ?_; rintro e w' ⟨rfl, hb'⟩)
 refine bodyPost_ret (v := resV p) (by simp [results, Tryz.results102, go_sem, resV]) rfl ⟨rfl, ?_⟩
 exact ((Below.refl _ w).alloc (Nat.le_refl _) _).trans (hb'.mono (by simp))
end Go.Proofs.YtiheiaaifdjpeaaGreat

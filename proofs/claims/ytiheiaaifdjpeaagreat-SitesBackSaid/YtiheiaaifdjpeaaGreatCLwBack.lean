/- The contract of gnomonlaw12.SitesBack: it answers true. Condition: the program lies in memory. -/
import Derived.Test.YtiheiaaifdjpeaaGreatCKn
import Derived.Test.YtiheiaaifdjpeaaGreatCSiI
import Derived.Deep.CutRange
set_option linter.unusedVariables false
set_option linter.unusedSimpArgs false
set_option linter.unusedSectionVars false
set_option maxHeartbeats 8000000
set_option maxRecDepth 100000
namespace Go.Proofs.YtiheiaaifdjpeaaGreat
open Go.RowKit Go.Shelf
theorem step_yes {o base n : Nat} {k : Int} (h : base ≤ o) (h1 : 0 ≤ (o : Int) - base + k) (h2 : (o : Int) - base + k < n) : stepV o base n k = ((o : Int) + k, true) := by
 unfold stepV
 rw [if_neg (by omega)]
theorem step_no {o base n : Nat} {k : Int} (h : ¬ (0 ≤ (o : Int) - base + k ∧ (o : Int) - base + k < n)) : stepV o base n k = (0, false) := by
 unfold stepV
 rw [if_pos (by omega)]
theorem sback_any (p : GProg) (vp : Value) (w : World) (B : Nat) (hB : B ≤ w.heap.size) (h : ProgAt w B vp p) : Calls Tryz.prog 6 #[.agg #[vp]] w fun e w' => e = .returned (.bool true) ∧ w.grownBy w' none := by
 obtain ⟨A, c, rfl, m1, m2, m3, hA⟩ := h.open_
 obtain ⟨W, hW⟩ : ∃ W : World, W = w.alloc (.cells #[.slice A p.length c] 24) := ⟨_, rfl⟩
 have hgW : w.grownBy W none := by rw [hW]; exact World.grownBy_alloc _ _ _
 have hb : W.heap[w.heap.size]? = some (.cells #[.slice A p.length c] 24 (0, 0)) := by rw [hW]; exact World.alloc_heap_new _ _
 have HS := Lib.hid (show ∀ W', W.grownBy W' none → W'.cell? ⟨w.heap.size, 0, none⟩ = some (.slice A p.length c) from fun W' hg => (World.cell?_of_block (hg.block w.heap.size (seen_lt hb) (by simp))).trans ((blk_facts hb).1 0))
 have HP := Lib.hid (show ∀ W', W.grownBy W' none → ProgAt W' B (.slice A p.length c) p from fun W' hg => h.below funR.keeps (grown_none (grown_trans hgW hg)) hB)
 have hBW : ∀ W', W.grownBy W' none → B ≤ W'.heap.size := fun W' hg => by have := hgW.size; have := hg.size; omega
 have HB := Lib.hid hBW
 have hgr := great12_any p _ W B (HB.out W (World.grownBy.refl _ _)) (HP.out W (World.grownBy.refl _ _))
 have HgW := Lib.hid hgW
 have hc := HS.out W (World.grownBy.refl _ _)
 clear hb hgW hA h hBW
 go_enter Tryz.func6, Tryz.ntmps6
 go_upto_region 1 with (fail)
 rw [← hW]
 clear hW
 go_upto_if 32 with (go_at_call 11; refine hgr.mono ?_; rintro e w1 ⟨bg, rfl, hg1⟩)
 have hc1 := HS.out w1 hg1
 cases bg with
 | true =>
  go_wp2_with (go_at_call 12; refine (wakes12_any _).mono ?_; rintro e w2 ⟨rfl, hg2⟩)
  go_ret
  exact ⟨rfl, grown_trans HgW.out (grown_trans hg1 hg2)⟩
 | false =>
  by_cases hz : (sndChk p).1 = 0
  ·have hN := nOk_of hz
   have hnew := new_any p _ w1 B (HB.out _ hg1) (HP.out _ hg1) (cpOk_of hN) hz
   go_upto_region 6 with (go_at_call 13; refine hnew.mono ?_; rintro e w2 ⟨m, rfl, hM, hg2⟩)
   have hlens := hN.lens (Nat.le_refl p.length) (SLe.refl _)
   have hfn := hN.funcs
   have HM := Lib.hid (show ∀ W', w2.grownBy W' none → MapL _ W' m p from fun W' hg => hM.grown hg)
   have HN := Lib.hid hN
   have Hg2 := Lib.hid (grown_trans HgW.out (grown_trans hg1 hg2))
   have Hlens := Lib.hid hlens
   clear hnew hc hc1 hM hN hgr hz hg2 hg1 HS HP HB hlens
   go_wp2_with fail
   go_loopw [5] (fun s5 wr => ∃ v : Nat, v ≤ (sitesTo p p.length).vars.length ∧ s5 = .int .i64 v ∧ Hid (w2.grownBy wr none)) (fun s5 _ => (sitesTo p p.length).vars.length - (intOf s5).toNat)
   case atStart => exact ⟨0, Nat.zero_le _, rfl, World.grownBy.refl _ _⟩
   case round =>
    obtain ⟨v, hv, rfl, hg⟩ := hrel
    have hvl' := Hlens.out.1
    have hV := mvars_any (HM.out wr hg.out)
    by_cases hvl : v < (sitesTo p p.length).vars.length
    ·obtain ⟨x, hx⟩ : ∃ x, (sitesTo p p.length).vars[v]? = some x := ⟨_, List.getElem?_eq_getElem hvl⟩
     have hvo := mvarOf_any (HM.out wr hg.out) hx
     have Hbv := Lib.hid (back_var HN.out hx)
     clear hx
     go_upto_region 9 with (go_at_call 18; refine hV.mono ?_; rintro e w3 ⟨rfl, rfl⟩)
     clear hV
     go_upto_region 10 with (go_at_call 33; refine hvo.mono ?_; rintro e w4 ⟨rfl, hg4⟩)
     have hvr := mvar_any (HM.out w4 (grown_trans hg.out hg4)) x.1 x.2
     rw [Hbv.out] at hvr
     clear hvo
     go_upto_region 11 with (go_at_call 21; refine hvr.mono ?_; rintro e w5 ⟨rfl, hg5⟩)
     have Hg5 := Lib.hid (grown_trans (grown_trans hg.out hg4) hg5)
     clear hvr hg4 hg5
     go_wp2_with fail
     go_roundw
     case rel => exact ⟨v + 1, by omega, by go_num, Hg5.out⟩
     case measure => simp [intOf]; omega
    ·obtain rfl : v = (sitesTo p p.length).vars.length := by omega
     go_upto_region 13 with (go_at_call 18; refine hV.mono ?_; rintro e w3 ⟨rfl, rfl⟩)
     clear hV hvl hv
     go_wp2_with fail
     go_loopw [11] (fun s11 wi => ∃ o : Nat, o ≤ (sitesTo p p.length).of.length + p.length ∧ s11 = .int .i64 o ∧ Hid (w2.grownBy wi none)) (fun s11 _ => ((sitesTo p p.length).of.length + p.length) - (intOf s11).toNat)
     case atStart => exact ⟨0, Nat.zero_le _, rfl, hg.out⟩
     case round =>
      clear hg
      obtain ⟨o, ho, rfl, hg⟩ := hrel
      have hO := mobjs_any (HM.out wr hg.out)
      by_cases hol : o < (sitesTo p p.length).of.length
      ·obtain ⟨j, ⟨⟨pf, pb, pi⟩, base, n⟩, f, y, z, q1, q2, q3, q4, q5, q6, hzn, q7, q8, q9, q10, q11⟩ := back_site HN.out hol
       simp only at q3 q4 q5 q6 hzn q7 q8 q9 q10 q11
       obtain ⟨fd, hfd⟩ : ∃ fd : Nat, o = base + fd := ⟨o - base, by omega⟩
       have hobj := mobj_field (HM.out wr hg.out) q1 q2
       simp only at hobj
       rw [show (o : Int) - (base : Int) = (fd : Int) by omega] at hobj
       have hl4 := Hlens.out.2.2.2
       have hol' : o ≤ 1000000 := by omega
       have Hfd := Lib.hid (And.intro hfd (And.intro q8 (And.intro q9 q10)))
       have Hzn := Lib.hid hzn
       clear hfd hzn q8 q9 q10
       go_upto_region 16 with (go_at_call 19; refine hO.mono ?_; rintro e w3 ⟨rfl, rfl⟩)
       go_upto_region 17 with (go_at_call 34; refine hobj.mono ?_; rintro e w4 ⟨rfl, hg4⟩)
       obtain ⟨W4, hW4⟩ : ∃ W4, W4 = w4.alloc (.cells #[.int .i64 pf, .int .i64 pb, .int .i64 pi] 42) := ⟨_, rfl⟩
       rw [← hW4]
       have hb4 : W4.heap[w4.heap.size]? = some (.cells #[.int .i64 pf, .int .i64 pb, .int .i64 pi] 42 (0, 0)) := by rw [hW4]; exact World.alloc_heap_new _ _
       have HQ := Lib.hid (show ∀ W', W4.grownBy W' none → W'.cell? ⟨w4.heap.size, 0, none⟩ = some (.int .i64 pf) ∧ W'.cell? ⟨w4.heap.size, 1, none⟩ = some (.int .i64 pb) ∧ W'.cell? ⟨w4.heap.size, 2, none⟩ = some (.int .i64 pi) from fun W' hg' => ⟨(World.cell?_of_block (hg'.block w4.heap.size (seen_lt hb4) (by simp))).trans ((blk_facts hb4).1 0), (World.cell?_of_block (hg'.block w4.heap.size (seen_lt hb4) (by simp))).trans ((blk_facts hb4).1 1), (World.cell?_of_block (hg'.block w4.heap.size (seen_lt hb4) (by simp))).trans ((blk_facts hb4).1 2)⟩)
       have hg24 : w2.grownBy W4 none := by rw [hW4]; exact grown_alloc (grown_trans hg.out hg4) _
       have hfl := mfields_any (HM.out W4 hg24)
       have hsite := msite_yes (HM.out W4 hg24) q3 q2
       simp only at hsite
       obtain ⟨k0, k1, k2⟩ := HQ.out W4 (World.grownBy.refl _ _)
       have Hg24 := Lib.hid hg24
       have HQ6 := Lib.hid (And.intro q4 (And.intro q5 q6))
       have HQ1 := Lib.hid (And.intro q1 (And.intro q2 q11))
       clear hW4 hb4 hobj hO hg4 hg24 q1 q2 q3 q4 q5 q6 q11
       go_upto_region 22 with (go_at_call 32; refine hfl.mono ?_; rintro e w5 ⟨rfl, rfl⟩)
       go_upto_region 23 with (go_at_call 24; refine hsite.mono ?_; rintro e w6 ⟨rfl, hg6⟩)
       clear k0 k1 k2 hsite hfl
       obtain ⟨k0, k1, k2⟩ := HQ.out w6 hg6
       have hins := minstr_any (HM.out w6 (grown_trans Hg24.out hg6)) HQ6.out.1 HQ6.out.2.1 HQ6.out.2.2
       simp only [insV, Hzn.out] at hins
       go_upto_region 24 with (go_at_call 17; refine hins.mono ?_; rintro e w7 ⟨A7, d7, A8, d8, rfl, -, hg7⟩)
       obtain ⟨W7, hW7⟩ : ∃ W7, W7 = w7.alloc (.cells #[.int .u8 z.op, .string ⟨z.dst.toArray⟩, .string ⟨z.a.toArray⟩, .string ⟨z.b.toArray⟩, .int .i64 n, .string ⟨z.fn.toArray⟩, .slice A7 z.args.length d7, .slice A8 z.labels.length d8] 38) := ⟨_, rfl⟩
       rw [← hW7]
       have kn : W7.cell? ⟨w7.heap.size, 4, none⟩ = some (.int .i64 n) := by
        rw [hW7]
        exact (blk_facts (World.alloc_heap_new w7 _)).1 4
       have hg27 : w2.grownBy W7 none := by rw [hW7]; exact grown_alloc (grown_trans (grown_trans Hg24.out hg6) hg7) _
       have Hg27 := Lib.hid hg27
       have hwo : IntKind.i64.wrap ((base : Int) + (fd : Int)) = (o : Int) := by have := Hfd.out; rw [IntKind.wrap_i64]; omega
       have hfn : (fd : Int) < (n : Int) := by have := Hfd.out; omega
       have hneg : IntKind.i64.wrap (-(n : Int)) = -(n : Int) := by rw [IntKind.wrap_i64]; omega
       clear hW7 hins k0 k1 k2 hg6 hg7 hg27 HQ HQ6
       go_cut [149] from 122 to 149 (fun s149 wx => s149 = .bool false ∧ wx = W7)
       case first =>
        go_wp2_with fail
        go_meet
        exact ⟨by rw [decide_eq_false (show ¬ ((fd : Int) < 0) by omega), decide_eq_false (show ¬ (n ≤ fd) by omega)]; rfl, rfl⟩
       case rest =>
        obtain ⟨rfl, hw⟩ := hcut
        subst hw
        go_upto_region 26 with fail
        go_wp2_with fail
        clear kn
        go_loopw [21] (fun s21 wi => ∃ k : Int, -(n : Int) ≤ k ∧ k ≤ (n : Int) + 1 ∧ s21 = .int .i64 k ∧ Hid (w2.grownBy wi none)) (fun s21 _ => ((n : Int) + 1 - intOf s21).toNat)
        case atStart => exact ⟨-(n : Int), by omega, by omega, rfl, Hg27.out⟩
        case round =>
         obtain ⟨k, hk0, hk1, rfl, hgk⟩ := hrel
         by_cases hkn : k ≤ (n : Int)
         ·have hst := mstep_any (HM.out _ hgk.out) HQ1.out.1 HQ1.out.2.1 k
          simp only at hst
          have hwk : IntKind.i64.wrap ((fd : Int) + k) = (fd : Int) + k := by have := Hfd.out; rw [IntKind.wrap_i64]; omega
          have hwm : IntKind.i64.wrap (-k) = -k := by rw [IntKind.wrap_i64]; omega
          have hwp : IntKind.i64.wrap (k + 1) = k + 1 := by rw [IntKind.wrap_i64]; omega
          by_cases hup : 0 ≤ (o : Int) - base + k ∧ (o : Int) - base + k < n
          ·obtain ⟨o', ho'⟩ : ∃ o' : Nat, (o' : Int) = (o : Int) + k := ⟨((o : Int) + k).toNat, by omega⟩
           rw [step_yes Hfd.out.2.1 hup.1 hup.2, ← ho'] at hst
           simp only at hst
           have hof : (sitesTo p p.length).of[o']? = some j := by
            have := HQ1.out.2.2 (o' - base) (by have := Hfd.out; omega)
            rw [show base + (o' - base) = o' by have := Hfd.out; omega] at this
            exact this
           have Hof := Lib.hid hof
           have u1 : 0 ≤ (fd : Int) + k := by have := Hfd.out; omega
           have u2 : (fd : Int) + k < (n : Int) := by have := Hfd.out; omega
           have Hup := Lib.hid (And.intro hup ho')
           clear hof hup ho'
           go_upto_region 33 with (go_at_call 28; refine hst.mono ?_; rintro e w8 ⟨rfl, hg8⟩)
           have hst2 := mstep_any (HM.out _ (grown_trans hgk.out hg8)) Hof.out HQ1.out.2.1 (-k)
           simp only at hst2
           rw [step_yes (by have := Hfd.out; have := Hup.out; omega) (by have := Hfd.out; have := Hup.out; omega) (by have := Hfd.out; have := Hup.out; omega), show (o' : Int) + -k = (o : Int) by have := Hup.out; omega] at hst2
           simp only at hst2
           have Hg8 := Lib.hid (grown_trans hgk.out hg8)
           clear hst hg8 u1 u2 hwk
           go_wp2_with (go_at_call 28; refine hst2.mono ?_; rintro e w9 ⟨rfl, hg9⟩)
           go_roundw
           case rel => exact ⟨k + 1, by omega, by omega, rfl, grown_trans Hg8.out hg9⟩
           case measure => simp [intOf]; omega
          ·rw [step_no hup] at hst
           simp only at hst
           by_cases hA : 0 ≤ (fd : Int) + k
           ·have u2 : ¬ ((fd : Int) + k < (n : Int)) := by have := Hfd.out; omega
            clear hup
            go_wp2_with (go_at_call 28; refine hst.mono ?_; rintro e w8 ⟨rfl, hg8⟩)
            go_roundw
            case rel => exact ⟨k + 1, by omega, by omega, rfl, grown_trans hgk.out hg8⟩
            case measure => simp [intOf]; omega
           ·clear hup
            go_wp2_with (go_at_call 28; refine hst.mono ?_; rintro e w8 ⟨rfl, hg8⟩)
            go_roundw
            case rel => exact ⟨k + 1, by omega, by omega, rfl, grown_trans hgk.out hg8⟩
            case measure => simp [intOf]; omega
         ·go_wp2_with fail
          go_roundw
          case rel => exact ⟨o + 1, by omega, by go_num, hgk.out⟩
          case measure => simp [intOf]; omega
      ·by_cases hol2 : o < (sitesTo p p.length).of.length + p.length
       ·obtain ⟨f, hf⟩ : ∃ f : Nat, o = (sitesTo p p.length).of.length + f := ⟨o - (sitesTo p p.length).of.length, by omega⟩
        have hfp : f < p.length := by omega
        have hobj := mobj_func (HM.out wr hg.out) hfp
        rw [← hf] at hobj
        have hl4 := Hlens.out.2.2.2
        have hol' : o ≤ 1000000 := by omega
        have Hf := Lib.hid hf
        clear hf
        go_upto_region 16 with (go_at_call 19; refine hO.mono ?_; rintro e w3 ⟨rfl, rfl⟩)
        go_upto_region 17 with (go_at_call 34; refine hobj.mono ?_; rintro e w4 ⟨rfl, hg4⟩)
        obtain ⟨W4, hW4⟩ : ∃ W4, W4 = w4.alloc (.cells #[.int .i64 0, .int .i64 0, .int .i64 0] 42) := ⟨_, rfl⟩
        rw [← hW4]
        have hg24 : w2.grownBy W4 none := by rw [hW4]; exact grown_alloc (grown_trans hg.out hg4) _
        have hfl := mfields_any (HM.out W4 hg24)
        have hfo := mfuncObj_any (HM.out W4 hg24) f hfp
        rw [show ((sitesTo p p.length).of.length : Int) + (f : Int) = (o : Int) by have := Hf.out; omega] at hfo
        have hge : ((sitesTo p p.length).of.length : Int) ≤ (o : Int) := by omega
        have Hg24 := Lib.hid hg24
        clear hW4 hobj hO hg4 hg24
        go_wp2_with (first | (go_at_call 32; refine hfl.mono ?_; rintro e w5 ⟨rfl, rfl⟩) | (go_at_call 35; refine hfo.mono ?_; rintro e w6 ⟨rfl, rfl⟩))
        go_roundw
        case rel => exact ⟨o + 1, by omega, by go_num, Hg24.out⟩
        case measure => simp [intOf]; omega
       ·obtain rfl : o = (sitesTo p p.length).of.length + p.length := by omega
        have hpt := mpoints_any (HM.out wr hg.out)
        have hge : ¬ ((((sitesTo p p.length).of.length + p.length : Nat) : Int) < ((sitesTo p p.length).of.length : Int) + (p.length : Int)) := by omega
        go_upto_region 38 with (first | (go_at_call 19; refine hO.mono ?_; rintro e w3 ⟨rfl, rfl⟩) | (go_at_call 15; refine hpt.mono ?_; rintro e w3 ⟨hb3, A3, c3, rfl, hp1, hp2, hp3⟩))
        have hSl : SlAt ptR 3 w3 w3.heap.size (.slice A3 (sitesTo p p.length).pl.length c3) (sitesTo p p.length).pl := by
         refine ⟨A3, c3, rfl, hp1, hp2, fun k q hq => ?_⟩
         rcases hp3 with ⟨_, h0, _⟩ | ⟨g, cur, rfl, hgl, hgb, hgr⟩
         ·rw [h0] at hq; simp at hq
         ·exact ⟨g, 0, rfl, seen_lt hgb, by rw [Nat.zero_add]; exact (hgr k q hq)⟩
        have Hg23 := Lib.hid (grown_trans hg.out (below_grown hb3))
        have HSl := Lib.hid hSl
        have hl2 := Hlens.out.2.1
        have hl4 := Hlens.out.2.2.2
        clear hSl hp3 hb3 hpt hO hge ho hol hol2 hg
        go_wp2_with fail
        go_loopw [26, 28] (fun s26 s28 wi => ∃ i : Nat, i ≤ (sitesTo p p.length).pl.length ∧ s26 = .int .i64 (fldTo p i) ∧ s28 = .int .i64 i ∧ Hid (w3.grownBy wi none)) (fun _ s28 _ => (sitesTo p p.length).pl.length - (intOf s28).toNat)
        case atStart => exact ⟨0, Nat.zero_le _, by rw [fldTo_zero]; rfl, rfl, World.grownBy.refl _ _⟩
        case round =>
         obtain ⟨i, hi, rfl, rfl, hg⟩ := hrel
         by_cases hil : i < (sitesTo p p.length).pl.length
         ·obtain ⟨⟨pf, pb, pi⟩, gl, offl, hq, rfl, hgl, l0, l1, l2⟩ := HSl.out.at_ hil
          obtain ⟨f, y, z, q3, q4, q5, q6⟩ := back_pt hq
          have hb' := grown_none hg.out
          have l0' := cur hb' hgl l0
          have l1' := cur hb' hgl l1
          have l2' := cur hb' hgl l2
          have hins := minstr_any (HM.out _ (grown_trans Hg23.out hg.out)) q4 q5 q6
          simp only [insV] at hins
          have hmo := fldTo_more q3
          have hle := fldTo_le p (i + 1)
          have Hq3 := Lib.hid q3
          simp only at l0' l1' l2'
          clear q3 q4 q5 q6 hq l0 l1 l2 hb'
          go_upto_region 42 with (go_at_call 17; refine hins.mono ?_; rintro e w7 ⟨A7, d7, A8, d8, rfl, -, hg7⟩)
          obtain ⟨W7, hW7⟩ : ∃ W7, W7 = w7.alloc (.cells #[.int .u8 z.op, .string ⟨z.dst.toArray⟩, .string ⟨z.a.toArray⟩, .string ⟨z.b.toArray⟩, .int .i64 z.n, .string ⟨z.fn.toArray⟩, .slice A7 z.args.length d7, .slice A8 z.labels.length d8] 38) := ⟨_, rfl⟩
          rw [← hW7]
          have k0 : W7.cell? ⟨w7.heap.size, 0, none⟩ = some (.int .u8 z.op) := by
           rw [hW7]
           exact (blk_facts (World.alloc_heap_new w7 _)).1 0
          have k4 : W7.cell? ⟨w7.heap.size, 4, none⟩ = some (.int .i64 z.n) := by
           rw [hW7]
           exact (blk_facts (World.alloc_heap_new w7 _)).1 4
          have Hg37 := Lib.hid (show w3.grownBy W7 none by rw [hW7]; exact grown_alloc (grown_trans hg.out hg7) _)
          clear hW7 hins hg7 l0' l1' l2'
          go_upto_region 44 with fail
          go_cut [219] from 212 to 219 (fun s219 wx => s219 = .bool (isSite z) ∧ wx = W7)
          case first =>
           by_cases o1 : (z.op : Int) = 1
           ·have hs : isSite z = true := by simp only [isSite, Bool.or_eq_true, beq_iff_eq]; omega
            have Hs := Lib.hid hs
            clear hs
            go_wp2_with fail
            go_meet
            exact ⟨by rw [Hs.out], rfl⟩
           ·by_cases o2 : (z.op : Int) = 2
            ·have hs : isSite z = true := by simp only [isSite, Bool.or_eq_true, beq_iff_eq]; omega
             have Hs := Lib.hid hs
             clear hs
             go_wp2_with fail
             go_meet
             exact ⟨by rw [Hs.out], rfl⟩
            ·have hs : isSite z = false := by simp only [isSite, Bool.or_eq_false_iff, beq_eq_false_iff_ne]; omega
             have Hs := Lib.hid hs
             clear hs
             go_wp2_with fail
             go_meet
             exact ⟨by rw [Hs.out]; simp [o1, o2], rfl⟩
          case rest =>
           obtain ⟨rfl, hw⟩ := hcut
           subst hw
           cases hs : isSite z with
           | true =>
            have hw : wSite z = z.n.toNat := by simp [wSite, hs]
            have h64 := HN.out.site (List.mem_of_getElem? Hq3.out) hs
            obtain ⟨nn, hnn⟩ : ∃ nn : Nat, z.n = (nn : Int) := ⟨z.n.toNat, by omega⟩
            rw [hnn] at k4
            have hre : ((fldTo p i : Nat) : Int) + (nn : Int) = ((fldTo p (i + 1) : Nat) : Int) := by omega
            have hwr : IntKind.i64.wrap (((fldTo p i : Nat) : Int) + (nn : Int)) = ((fldTo p (i + 1) : Nat) : Int) := by rw [IntKind.wrap_i64]; omega
            clear hmo hw h64 hre hnn
            go_wp2_with fail
            go_roundw
            case rel => exact ⟨i + 1, by omega, rfl, by go_num, Hg37.out⟩
            case measure => simp [intOf]; omega
           | false =>
            have hw : wSite z = 0 := by simp [wSite, hs]
            have hre : fldTo p (i + 1) = fldTo p i := by omega
            clear hmo hw
            go_wp2_with fail
            go_roundw
            case rel => exact ⟨i + 1, by omega, by rw [hre], by go_num, Hg37.out⟩
            case measure => simp [intOf]; omega
         ·obtain rfl : i = (sitesTo p p.length).pl.length := by omega
          rw [fldTo_all]
          have hF := mfields_any (HM.out _ (grown_trans Hg23.out hg.out))
          have hS := msize_any (HM.out _ (grown_trans Hg23.out hg.out))
          have hww : IntKind.i64.wrap (((sitesTo p p.length).pl.length : Int) + ((sitesTo p p.length).of.length : Int)) = ((sitesTo p p.length).pl.length : Int) + ((sitesTo p p.length).of.length : Int) := by rw [IntKind.wrap_i64]; omega
          go_wp2_with (first | (go_at_call 32; refine hF.mono ?_; rintro e w4 ⟨rfl, rfl⟩) | (go_at_call 36; refine hS.mono ?_; rintro e w4 ⟨rfl, hg4⟩) | (go_at_call 12; refine (wakes12_any _).mono ?_; rintro e w5 ⟨rfl, hg5⟩))
          go_ret
          exact ⟨rfl, grown_trans Hg2.out (grown_trans Hg23.out (grown_trans hg.out (grown_trans hg4 hg5)))⟩
  ·have hnew := new_bad p _ w1 B (HB.out _ hg1) (HP.out _ hg1) hz
   go_wp2_with (first | (go_at_call 13; refine hnew.mono ?_; rintro e w2 ⟨rfl, hg2⟩) | (go_at_call 12; refine (wakes12_any _).mono ?_; rintro e w3 ⟨rfl, hg3⟩))
   go_ret
   exact ⟨rfl, grown_trans HgW.out (grown_trans hg1 (grown_trans hg2 hg3))⟩
end Go.Proofs.YtiheiaaifdjpeaaGreat

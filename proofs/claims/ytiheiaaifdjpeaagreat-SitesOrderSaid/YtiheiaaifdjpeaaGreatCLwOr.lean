/- The contract of gnomonlaw12.SitesOrder: it answers true. Condition: the program lies in memory. -/
import Derived.Test.YtiheiaaifdjpeaaGreatCKn
import Derived.Deep.CutRange
set_option linter.unusedVariables false
set_option linter.unusedSimpArgs false
set_option linter.unusedSectionVars false
set_option maxHeartbeats 8000000
set_option maxRecDepth 100000
namespace Go.Proofs.YtiheiaaifdjpeaaGreat
open Go.RowKit Go.Shelf
theorem rowN_at {w : World} {base : Nat} {v : Value} {l : List Nat} (h : w.ownsRow base 3 1 v l.length (l.map encN)) (hb : ∀ x ∈ l, x ≤ 9223372036854775807) : SlAt natR 1 w w.heap.size v l := by
 refine SlAt.of_ownN h rfl (fun g e => (h.lt g e).2) fun g k x e hx => ?_
 obtain ⟨A', c', rfl, _, _, h0, h1⟩ := owns_slice' h
 cases A' with
 | none => simp [Value.ownBlock] at e
 | some a =>
  obtain ⟨ha, -, -⟩ := h1 a rfl
  rw [ha] at h e
  simp only [Value.ownBlock, Option.map_some, Option.some.injEq] at e
  obtain ⟨_, _, _, _, h6⟩ := owns_cells h
  have hc := h6 k (encN x) (by rw [List.getElem?_map, hx]; rfl)
  rw [← e]
  refine ⟨?_, hb x (List.mem_of_getElem? hx)⟩
  rw [Nat.mul_one]
  exact hc
theorem SSt.par_lens (i : Nat) : ∀ (l : List Str) (s : SSt), (s.par i l).pl = s.pl ∧ (s.par i l).of = s.of
 | [], _ => ⟨rfl, rfl⟩
 | t :: l, s => SSt.par_lens i l (s.var (i, t))
theorem site_nums {p : GProg} {q : GPt} {z : GIns} {T T' : SSt} (i3 : isSite z = true → aget (sitesTo p p.length).at_ q = some T.sites.length ∧ (sitesTo p p.length).sites[T.sites.length]? = some (q, T.of.length, z.n.toNat) ∧ T'.of.length = T.of.length + z.n.toNat)
  (i4 : isSite z = false → aget (sitesTo p p.length).at_ q = none ∧ T'.of.length = T.of.length) (hn : isSite z = true → 1 ≤ z.n ∧ z.n ≤ 64) :
  ∃ nn bb : Nat, T'.of.length = T.of.length + nn ∧ nn ≤ 64 ∧ (isSite z = true → bb = T.of.length ∧ (nn : Int) = z.n) ∧ (isSite z = true → ∃ k, aget (sitesTo p p.length).at_ q = some k ∧ (sitesTo p p.length).sites[k]? = some (q, bb, nn)) ∧ (isSite z = false → aget (sitesTo p p.length).at_ q = none ∧ bb = 0 ∧ nn = 0) := by
 cases hs : isSite z with
 | true =>
  obtain ⟨j1, j2, j3⟩ := i3 hs
  have h1 := hn hs
  exact ⟨z.n.toNat, T.of.length, j3, by omega, fun _ => ⟨rfl, by omega⟩, fun _ => ⟨_, j1, j2⟩, fun h => (by cases h)⟩
 | false =>
  obtain ⟨j1, j2⟩ := i4 hs
  exact ⟨0, 0, j2, by omega, fun h => (by cases h), fun h => (by cases h), fun _ => ⟨j1, rfl, rfl⟩⟩
theorem msite_both {lo m : Nat} {w : World} {p : GProg} (h : MapL lo w m p) {q : GPt} {z : GIns} {a b : Nat} (h1 : isSite z = true → ∃ k, aget (sitesTo p p.length).at_ q = some k ∧ (sitesTo p p.length).sites[k]? = some (q, a, b)) (h0 : isSite z = false → aget (sitesTo p p.length).at_ q = none ∧ a = 0 ∧ b = 0) :
  Calls Tryz.prog 24 #[.pointer (some ⟨m, 0, none⟩), .agg #[.int .i64 q.1, .int .i64 q.2.1, .int .i64 q.2.2]] w fun e w' => e = .returned (.tuple #[.int .i64 a, .int .i64 b, .bool (isSite z)]) ∧ w.grownBy w' none := by
 cases hs : isSite z with
 | true =>
  obtain ⟨k, j1, j2⟩ := h1 hs
  exact msite_yes h j1 j2
 | false =>
  obtain ⟨j1, rfl, rfl⟩ := h0 hs
  exact msite_no h j1
theorem st_zero {p : GProg} (h : NOk p) {i : Nat} {x : GFun} (hx : p[i]? = some x) : (stAt p i x []).pl.length = (sitesTo p i).pl.length ∧ (stAt p i x []).of.length = (sitesTo p i).of.length ∧ (stAt p i x []).vars.length = (sitesTo p i).vars.length + x.params.length := by
 rw [stAt_zero]
 obtain ⟨h1, h2⟩ := SSt.par_lens i x.params (sitesTo p i)
 rw [h1, h2]
 have := (par_no h hx (Nat.le_refl x.params.length)).1
 rw [List.take_length] at this
 exact ⟨rfl, rfl, this⟩
theorem fn_ix {p : GProg} (h : NOk p) {i : Nat} {x : GFun} (hx : p[i]? = some x) : ixK (fnamesTo p p.length) x.name = i ∧ hasK (fnamesTo p p.length) x.name = true := by
 rw [fnamesTo_map h (Nat.le_refl _), List.take_length]
 have hil := (List.getElem?_eq_some_iff.1 hx).1
 have hn := h.ffresh hx
 have hp : (p.take i).map (·.name) ++ [x.name] <+: p.map (·.name) := by
  have e : (p.take (i + 1)).map (·.name) = (p.take i).map (·.name) ++ [x.name] := by rw [List.take_add_one, hx]; simp
  rw [← e]
  exact (List.take_prefix _ _).map _
 obtain ⟨h1, h2⟩ := idx_prefix hp (by
                                   intro hm
                                   rw [List.contains_iff_mem.2 hm] at hn
                                   cases hn)
 have hc : (p.map (·.name)).contains x.name = true := List.contains_iff_mem.2 h2
 refine ⟨?_, hc⟩
 unfold ixK
 rw [if_pos hc, h1, List.length_map, List.length_take]
 omega
theorem order_any (p : GProg) (vp : Value) (w : World) (B : Nat) (hB : B ≤ w.heap.size) (h : ProgAt w B vp p) : Calls Tryz.prog 5 #[.agg #[vp]] w fun e w' => e = .returned (.bool true) ∧ w.grownBy w' none := by
 obtain ⟨A, c, rfl, m1, m2, m3, hA⟩ := h.open_
 obtain ⟨W, hW⟩ : ∃ W : World, W = w.alloc (.cells #[.slice A p.length c] 24) := ⟨_, rfl⟩
 have hgW : w.grownBy W none := by rw [hW]; exact World.grownBy_alloc _ _ _
 have hb : W.heap[w.heap.size]? = some (.cells #[.slice A p.length c] 24 (0, 0)) := by rw [hW]; exact World.alloc_heap_new _ _
 have HS := Lib.hid (show ∀ W', W.grownBy W' none → W'.cell? ⟨w.heap.size, 0, none⟩ = some (.slice A p.length c) from fun W' hg => (World.cell?_of_block (hg.block w.heap.size (seen_lt hb) (by simp))).trans ((blk_facts hb).1 0))
 have HP := Lib.hid (show ∀ W', W.grownBy W' none → ProgAt W' B (.slice A p.length c) p from fun W' hg => h.below funR.keeps (grown_none (grown_trans hgW hg)) hB)
 have hBW : ∀ W', W.grownBy W' none → B ≤ W'.heap.size := fun W' hg => by have := hgW.size; have := hg.size; omega
 have HB := Lib.hid hBW
 have hgr := great12_any p _ W B (HB.out W (World.grownBy.refl _ _)) (HP.out W (World.grownBy.refl _ _))
 have HgW := Lib.hid hgW
 have HA := Lib.hid hA
 have hc := HS.out W (World.grownBy.refl _ _)
 clear hb hgW hA h hBW
 go_enter Tryz.func5, Tryz.ntmps5
 go_upto_region 1 with (fail)
 rw [← hW]
 clear hW
 go_upto_if 24 with (go_at_call 11; refine hgr.mono ?_; rintro e w1 ⟨bg, rfl, hg1⟩)
 have hc1 := HS.out w1 hg1
 cases bg with
 | true =>
  go_wp2_with (go_at_call 12; refine (wakes12_any _).mono ?_; rintro e w2 ⟨rfl, hg2⟩)
  go_ret
  exact ⟨rfl, grown_trans HgW.out (grown_trans hg1 hg2)⟩
 | false =>
  by_cases hz : (sndChk p).1 = 0
  ·have hN := nOk_of hz
   have hnew := new_any p _ w1 B (HB.out _ hg1) (HP.out _ hg1) (cpOk_of hN) hz
   go_upto_region 6 with (go_at_call 13; refine hnew.mono ?_; rintro e w2 ⟨m, rfl, hM, hg2⟩)
   have hpt := mpoints_any hM
   have HM := Lib.hid hM
   clear hnew hc hc1 hM
   go_upto_region 9 with (go_at_call 15; refine hpt.mono ?_; rintro e w3 ⟨hb3, A3, c3, rfl, hp1, hp2, hp3⟩)
   have hSl : SlAt ptR 3 w3 w3.heap.size (.slice A3 (sitesTo p p.length).pl.length c3) (sitesTo p p.length).pl := by
    refine ⟨A3, c3, rfl, hp1, hp2, fun k q hq => ?_⟩
    rcases hp3 with ⟨_, h0, _⟩ | ⟨g, cur, rfl, hgl, hgb, hgr⟩
    ·rw [h0] at hq; simp at hq
    ·exact ⟨g, 0, rfl, seen_lt hgb, by rw [Nat.zero_add]; exact (hgr k q hq)⟩
   have hg3 : W.grownBy w3 none := grown_trans hg1 (grown_trans hg2 (below_grown hb3))
   have HSl := Lib.hid hSl
   have HM3 := Lib.hid (show ∀ W', w3.grownBy W' none → MapL _ W' m p from fun W' hg => HM.out.grown (grown_trans (below_grown hb3) hg))
   have HN := Lib.hid hN
   have Hg3 := Lib.hid hg3
   clear hSl hp3 hg3 hg2 hb3 hg1 hN hgr hpt hz HM
   go_loopw [6, 7, 8, 9] (fun s6 s7 s8 s9 wr => ∃ i : Nat, i ≤ p.length ∧ s6 = .int .i64 (sitesTo p i).pl.length ∧ s7 = .int .i64 (sitesTo p i).of.length ∧ s8 = .int .i64 (sitesTo p i).vars.length ∧ s9 = .int .i64 i ∧ Hid (w3.grownBy wr none)) (fun _ _ _ s9 _ => p.length - (intOf s9).toNat)
   case atStart => exact ⟨0, Nat.zero_le _, by rw [sitesTo_zero]; rfl, by rw [sitesTo_zero]; rfl, by rw [sitesTo_zero]; rfl, rfl, World.grownBy.refl _ _⟩
   case round =>
    obtain ⟨i, hi, rfl, rfl, rfl, rfl, hg⟩ := hrel
    have hc := HS.out wr (grown_trans Hg3.out hg.out)
    by_cases hil : i < p.length
    ·obtain ⟨x, b, off, hx, rfl, hbB, hr⟩ := HA.out.at_ hil
     obtain ⟨A1, d1, A2, d2, hf, n1, n2, e0, e1, e2⟩ := funR_open hr
     have hbw : b < w.heap.size := by omega
     have HF := Lib.hid (show ∀ W', wr.grownBy W' none → W'.cell? ⟨w.heap.size, 0, none⟩ = some (.slice (some ⟨b, off, none⟩) p.length c) ∧ W'.cell? ⟨b, off + i * 3, none⟩ = some (.string ⟨x.name.toArray⟩) ∧ W'.cell? ⟨b, off + i * 3 + 1, none⟩ = some (.slice A1 x.params.length d1) ∧ W'.cell? ⟨b, off + i * 3 + 2, none⟩ = some (.slice A2 x.blocks.length d2) from fun W' hg' => by
                         have hb' := grown_none (grown_trans HgW.out (grown_trans Hg3.out (grown_trans hg.out hg')))
                         exact ⟨HS.out W' (grown_trans Hg3.out (grown_trans hg.out hg')), cur hb' hbw e0, cur hb' hbw e1, cur hb' hbw e2⟩)
     have HBl := Lib.hid hf.blocks
     have Hx := Lib.hid hx
     have hpar := mparams_any (HM3.out wr hg.out) hx
     simp only [List.length_map] at hpar
     obtain ⟨z1, z2, z3⟩ := st_zero HN.out hx
     have HZ := Lib.hid (And.intro z1 (And.intro z2 z3))
     clear hx hr hf e0 e1 e2 z1 z2 z3
     go_upto_region 12 with (go_at_call 31; refine hpar.mono ?_; rintro e w4 ⟨v4, rfl, ho4, hg4⟩; obtain ⟨A4, c4, rfl, -, -, -, -⟩ := owns_slice' ho4)
     obtain ⟨k0, kn, k1, k2⟩ := HF.out w4 hg4
     have hvb : (sitesTo p p.length).vars.length ≤ 20000 := by have := (HN.out.lens (Nat.le_refl p.length) (SLe.refl _)).1; omega
     have hP4 := rowN_at (l := x.params.map fun s => (sitesTo p p.length).vars.idxOf (i, s)) (by rw [List.length_map]; exact ho4) (fun y hy => by
                                                                                                                                   obtain ⟨s, _, rfl⟩ := List.mem_map.1 hy
                                                                                                                                   have := List.idxOf_le_length (l := (sitesTo p p.length).vars) (a := (i, s))
                                                                                                                                   omega)
     have HP4 := Lib.hid hP4
     have Hg4 := Lib.hid hg4
     have Hvb := Lib.hid hvb
     have hlens := HN.out.lens (show i ≤ p.length by omega) (SLe.refl _)
     have hpl8 := HN.out.params Hx.out
     have Hlens := Lib.hid hlens
     clear hP4 ho4 hpar hc hvb hlens
     go_wp2_with fail
     clear k0 kn k1 k2
     go_loopw [8, 11] (fun s8 s11 wi => ∃ j : Nat, j ≤ x.params.length ∧ s8 = .int .i64 ((sitesTo p i).vars.length + j : Nat) ∧ s11 = .int .i64 j ∧ Hid (w4.grownBy wi none)) (fun _ s11 _ => x.params.length - (intOf s11).toNat)
     case atStart => exact ⟨0, Nat.zero_le _, rfl, rfl, World.grownBy.refl _ _⟩
     case round =>
      obtain ⟨j, hj, rfl, rfl, hg5⟩ := hrel
      by_cases hjl : j < x.params.length
      ·obtain ⟨y, b4, off4, hy, rfl, hb4, hy0, hy1⟩ := HP4.out.at_ (k := j) (by rw [List.length_map]; exact hjl)
       rw [Nat.mul_one] at hy0
       have hy0' := cur (grown_none hg5.out) hb4 hy0
       obtain rfl : y = (sitesTo p i).vars.length + j := by
        rw [List.getElem?_map, List.getElem?_eq_getElem hjl] at hy
        simp only [Option.map_some, Option.some.injEq] at hy
        rw [← hy]
        exact ((par_no HN.out Hx.out (show j ≤ x.params.length by omega)).2 _ (List.getElem?_eq_getElem hjl)).1
       have hvi := Hlens.out.1
       clear hy hy0 hy1
       go_wp2
       go_roundw
       case rel => exact ⟨j + 1, by omega, by go_num, by go_num, hg5.out⟩
       case measure => simp [intOf]; omega
      ·obtain rfl : j = x.params.length := by omega
       have Hg34 := Lib.hid (grown_trans hg.out Hg4.out)
       obtain ⟨k0, kn, k1, k2⟩ := HF.out wr (grown_trans Hg4.out hg5.out)
       go_wp2
       clear k0 kn k1 k2
       go_loopw [6, 7, 8, 12] (fun s6 s7 s8 s12 wi => ∃ bi : Nat, bi ≤ x.blocks.length ∧ s6 = .int .i64 (stAt p i x (ptsTo2 [x] 0 x.blocks bi)).pl.length ∧ s7 = .int .i64 (stAt p i x (ptsTo2 [x] 0 x.blocks bi)).of.length ∧ s8 = .int .i64 (stAt p i x (ptsTo2 [x] 0 x.blocks bi)).vars.length ∧ s12 = .int .i64 bi ∧ Hid (w4.grownBy wi none)) (fun _ _ _ s12 _ => x.blocks.length - (intOf s12).toNat)
       case atStart => exact ⟨0, Nat.zero_le _, by rw [ptsTo2_zero, ptsTo1_zero, HZ.out.1], by rw [ptsTo2_zero, ptsTo1_zero, HZ.out.2.1], by rw [ptsTo2_zero, ptsTo1_zero, HZ.out.2.2], rfl, hg5.out⟩
       case round =>
        obtain ⟨bi, hbi, rfl, rfl, rfl, rfl, hg6⟩ := hrel
        obtain ⟨k0, kn, k1, k2⟩ := HF.out wr (grown_trans Hg4.out hg6.out)
        by_cases hbl : bi < x.blocks.length
        ·obtain ⟨y, b5, off5, hy, rfl, hb5, hby⟩ := HBl.out.at_ hbl
         obtain ⟨vc, hyb, y0, y1⟩ := hby
         obtain ⟨A5, d5, rfl, o1, o2, o3, -⟩ := hyb.code.open_
         have Hy := Lib.hid hy
         have HC := Lib.hid hyb.code
         have Hlow := Lib.hid (show ∀ W', w4.grownBy W' none → Below w.heap.size w W' from fun W' hg' => grown_none (grown_trans HgW.out (grown_trans Hg3.out (grown_trans Hg34.out hg'))))
         have y1' := cur (Hlow.out wr hg6.out) (show b5 < w.heap.size by omega) y1
         clear hy y0 y1 hyb
         go_wp2
         clear k0 kn k1 k2 y1'
         go_loopw [6, 7, 8, 14] (fun s6 s7 s8 s14 wi => ∃ j : Nat, j ≤ y.code.length ∧ s6 = .int .i64 (stAt p i x (ptsTo3 [x] 0 x.blocks bi y.code j)).pl.length ∧ s7 = .int .i64 (stAt p i x (ptsTo3 [x] 0 x.blocks bi y.code j)).of.length ∧ s8 = .int .i64 (stAt p i x (ptsTo3 [x] 0 x.blocks bi y.code j)).vars.length ∧ s14 = .int .i64 j ∧ Hid (w4.grownBy wi none)) (fun _ _ _ s14 _ => y.code.length - (intOf s14).toNat)
         case atStart => exact ⟨0, Nat.zero_le _, by rw [ptsTo3_zero], by rw [ptsTo3_zero], by rw [ptsTo3_zero], rfl, hg6.out⟩
         case round =>
          obtain ⟨j, hj, rfl, rfl, rfl, rfl, hg7⟩ := hrel
          by_cases hjl : j < y.code.length
          ·obtain ⟨z, b6, off6, hz, rfl, hb6, hzr⟩ := HC.out.at_ hjl
           obtain ⟨va, vl, hzi, z0, z1, z2, z3, z4, -, -, -⟩ := hzr
           have hb6w : b6 < w.heap.size := by omega
           have HZc := Lib.hid (show ∀ W', w4.grownBy W' none → W'.cell? ⟨b6, off6 + j * 8, none⟩ = some (.int .u8 z.op) ∧ W'.cell? ⟨b6, off6 + j * 8 + 1, none⟩ = some (.string ⟨z.dst.toArray⟩) ∧ W'.cell? ⟨b6, off6 + j * 8 + 4, none⟩ = some (.int .i64 z.n) from fun W' hg' => ⟨cur (Hlow.out W' hg') hb6w z0, cur (Hlow.out W' hg') hb6w z1, cur (Hlow.out W' hg') hb6w z4⟩)
           obtain ⟨T, hT⟩ : ∃ T, T = (stAt p i x (ptsTo3 [x] 0 x.blocks bi y.code j)) := ⟨_, rfl⟩
           obtain ⟨T', hT'⟩ : ∃ T', T' = (stAt p i x (ptsTo3 [x] 0 x.blocks bi y.code (j + 1))) := ⟨_, rfl⟩
           obtain ⟨⟨i1, i2⟩, i3, i4, i5, i6⟩ := ins_no HN.out Hx.out Hy.out hz hT hT'
           have hn64 : isSite z = true → 1 ≤ z.n ∧ z.n ≤ 64 := fun hs => HN.out.site (mem_pts Hx.out Hy.out hz) hs
           have hi1l := (List.getElem?_eq_some_iff.1 i1).1
           obtain ⟨q, gl, offl, hq, rfl, hgl, l0, l1, l2⟩ := HSl.out.at_ hi1l
           obtain rfl : q = (i, bi, j) := by rw [i1] at hq; injection hq with hq; exact hq.symm
           have HL := Lib.hid (show ∀ W', w4.grownBy W' none → W'.cell? ⟨gl, offl + T.pl.length * 3, none⟩ = some (.int .i64 i) ∧ W'.cell? ⟨gl, offl + T.pl.length * 3 + 1, none⟩ = some (.int .i64 bi) ∧ W'.cell? ⟨gl, offl + T.pl.length * 3 + 2, none⟩ = some (.int .i64 j) from fun W' hg' => by
                               have hb' := grown_none (grown_trans Hg34.out hg')
                               exact ⟨cur hb' hgl l0, cur hb' hgl l1, cur hb' hgl l2⟩)
           obtain ⟨nn, bb, hnn, hbn, hnz, hS1, hS0⟩ := site_nums (p := p) i3 i4 hn64
           have hsite : ∀ W', w4.grownBy W' none → Calls Tryz.prog 24 #[.pointer (some ⟨m, 0, none⟩), .agg #[.int .i64 i, .int .i64 bi, .int .i64 j]] W' fun e w' => e = .returned (.tuple #[.int .i64 bb, .int .i64 nn, .bool (isSite z)]) ∧ W'.grownBy w' none :=
            fun W' hg' => msite_both (q := (i, bi, j)) (HM3.out W' (grown_trans Hg34.out hg')) hS1 hS0
           have Hsite := Lib.hid hsite
           have Hnz := Lib.hid hnz
           have HT' := Lib.hid (And.intro hT' (And.intro i2 (And.intro hnn (And.intro i5 i6))))
           have hTl : T.pl.length ≤ 100000 ∧ T.of.length ≤ 1000000 ∧ T.vars.length ≤ 100000 := by
            obtain ⟨t1, t2, t3, t4⟩ := HN.out.lensR Hx.out (l := ptsTo3 [x] 0 x.blocks bi y.code j) (fun q hq => ((List.prefix_append _ _).trans (ptsTo_prefix (p := [x]) (i := 0) (f := x) rfl Hy.out hz)).subset hq) ((List.prefix_append _ _).trans (ptsTo_prefix (p := [x]) (i := 0) (f := x) rfl Hy.out hz)).length_le hT
            omega
           rw [← hT]
           obtain ⟨W7, hW7⟩ : ∃ W7, W7 = wr.alloc (.cells #[.int .i64 i, .int .i64 bi, .int .i64 j] 42) := ⟨_, rfl⟩
           have hg47 : w4.grownBy W7 none := by rw [hW7]; exact grown_alloc hg7.out _
           have hb7 : W7.heap[wr.heap.size]? = some (.cells #[.int .i64 i, .int .i64 bi, .int .i64 j] 42 (0, 0)) := by rw [hW7]; exact World.alloc_heap_new wr _
           obtain ⟨kq, -⟩ := blk_facts hb7
           have kq0 := kq 0
           have kq1 := kq 1
           have kq2 := kq 2
           obtain ⟨l0', l1', l2'⟩ := HL.out W7 hg47
           have Hb7 := Lib.hid hb7
           have Hz := Lib.hid hz
           have Hg47 := Lib.hid hg47
           clear hS1 hS0 hT hT' i1 i2 i3 i4 i5 i6 hq l0 l1 l2 hz hzi z0 z1 z2 z3 z4 hsite hnz hnn hn64 kq hb7 hg47
           go_upto_region 28 with (fail)
           rw [← hW7]
           clear hW7
           go_quiet (fail)
           go_upto_region 32 with (go_at_call 24; refine (Hsite.out _ (grown_drewN Hg47.out _)).mono ?_; rintro e w8 ⟨rfl, hg8⟩)
           have hg48 := grown_trans (grown_drewN Hg47.out _) hg8
           obtain ⟨c0, c1, c4⟩ := HZc.out w8 hg48
           have Hg48 := Lib.hid hg48
           clear hg8 hg48 kq0 kq1 kq2 l0' l1' l2'
           go_cut [16, 18, 119, 122, 123, 125, 158] from 126 to 158 (fun _ _ _ _ _ _ s158 wx => s158 = .bool false ∧ wx = w8)
           case first =>
            by_cases o1 : (z.op : Int) = 1
            ·have hs : isSite z = true := by simp only [isSite, Bool.or_eq_true, beq_iff_eq]; omega
             obtain ⟨hbb, hnn⟩ := Hnz.out hs
             rw [← hnn] at c4
             rw [hs, hbb]
             go_wp2_with fail
             go_meet
             exact ⟨rfl, rfl⟩
            ·by_cases o2 : (z.op : Int) = 2
             ·have hs : isSite z = true := by simp only [isSite, Bool.or_eq_true, beq_iff_eq]; omega
              obtain ⟨hbb, hnn⟩ := Hnz.out hs
              rw [← hnn] at c4
              rw [hs, hbb]
              go_wp2_with fail
              go_meet
              exact ⟨rfl, rfl⟩
             ·have hs : isSite z = false := by simp only [isSite, Bool.or_eq_false_iff, beq_eq_false_iff_ne]; omega
              rw [hs]
              go_wp2_with fail
              go_meet
              exact ⟨by simp [o1, o2], rfl⟩
           case rest =>
            obtain ⟨rfl, hw⟩ := hcut
            subst hw
            cases hd : z.dst.isEmpty with
            | true =>
             have hd' : z.dst = [] := by simpa using hd
             have Hd := Lib.hid hd'
             clear hd'
             go_wp2_with fail
             go_roundw
             case rel => exact ⟨j + 1, by omega, by rw [← HT'.out.1, HT'.out.2.1]; go_num, by rw [← HT'.out.1, HT'.out.2.2.1]; go_num, by rw [← HT'.out.1, HT'.out.2.2.2.2 Hd.out], by go_num, Hg48.out⟩
             case measure => simp [intOf]; omega
            | false =>
             have hd' : z.dst ≠ [] := by intro e; rw [e] at hd; simp at hd
             obtain ⟨⟨v1, v2⟩, v3⟩ := HT'.out.2.2.2.1 hd'
             have hvar := mvar_any (HM3.out _ (grown_trans Hg34.out Hg48.out)) (i : Int) z.dst
             rw [varV_yes hil (isName_nought (HN.out.dname Hx.out Hy.out Hz.out hd')).1 v2, v1] at hvar
             have Hv3 := Lib.hid v3
             clear hd' v1 v2 v3
             go_wp2_with (go_at_call 21; refine hvar.mono ?_; rintro e w9 ⟨rfl, hg9⟩)
             go_roundw
             case rel => exact ⟨j + 1, by omega, by rw [← HT'.out.1, HT'.out.2.1]; go_num, by rw [← HT'.out.1, HT'.out.2.2.1]; go_num, by rw [← HT'.out.1, Hv3.out]; go_num, by go_num, grown_trans Hg48.out hg9⟩
             case measure => simp [intOf]; omega
          ·obtain rfl : j = y.code.length := by omega
           have e3 := ptsTo2_succ (p := [x]) (i := 0) Hy.out hjl
           have He3 := Lib.hid e3
           clear e3
           go_wp2
           go_roundw
           case rel => exact ⟨bi + 1, by omega, by rw [He3.out], by rw [He3.out], by rw [He3.out], by go_num, hg7.out⟩
           case measure => simp [intOf]; omega
        ·obtain rfl : bi = x.blocks.length := by omega
         have hall : ptsTo2 [x] 0 x.blocks x.blocks.length = pts [x] := by
          rw [← ptsTo1_succ (p := [x]) (i := 0) (f := x) rfl hbl, ptsTo1_all (by simp)]
         have hst : stAt p i x (ptsTo2 [x] 0 x.blocks x.blocks.length) = sitesTo p (i + 1) := by rw [hall, stAt_all Hx.out]
         have Hst := Lib.hid hst
         have hfn := mfunc_any (HM3.out wr (grown_trans Hg34.out hg6.out)) x.name
         rw [(fn_ix HN.out Hx.out).1, (fn_ix HN.out Hx.out).2] at hfn
         clear hall hst
         go_wp2_with (go_at_call 26; refine hfn.mono ?_; rintro e w9 ⟨rfl, hg9⟩)
         go_roundw
         case rel => exact ⟨i + 1, by omega, by rw [Hst.out], by rw [Hst.out], by rw [Hst.out], by go_num, grown_trans Hg34.out (grown_trans hg6.out hg9)⟩
         case measure => simp [intOf]; omega
    ·obtain rfl : i = p.length := by omega
     have hF := mfields_any (HM3.out wr hg.out)
     have hV := mvars_any (HM3.out wr hg.out)
     go_wp2_with (first | (go_at_call 32; refine hF.mono ?_; rintro e w4 ⟨rfl, rfl⟩) | (go_at_call 18; refine hV.mono ?_; rintro e w4 ⟨rfl, rfl⟩) | (go_at_call 12; refine (wakes12_any _).mono ?_; rintro e w5 ⟨rfl, hg5⟩))
     go_ret
     exact ⟨rfl, grown_trans HgW.out (grown_trans Hg3.out (grown_trans hg.out hg5))⟩
  ·have hnew := new_bad p _ w1 B (HB.out _ hg1) (HP.out _ hg1) hz
   go_wp2_with (first | (go_at_call 13; refine hnew.mono ?_; rintro e w2 ⟨rfl, hg2⟩) | (go_at_call 12; refine (wakes12_any _).mono ?_; rintro e w3 ⟨rfl, hg3⟩))
   go_ret
   exact ⟨rfl, grown_trans HgW.out (grown_trans hg1 (grown_trans hg2 hg3))⟩
end Go.Proofs.YtiheiaaifdjpeaaGreat

/- gnomonlaw11.SoundReaches answers true. Condition: the program lies in memory. -/
import Derived.Test.YtpemkbjbbcnddaaGreatCLw
import Derived.Test.YtpemkbjbbcnddaaGreatCLwC
import Derived.Test.YtpemkbjbbcnddaaGreatCLwH
import Derived.Deep.LoopGhost
set_option linter.unusedVariables false
set_option linter.unusedSimpArgs false
set_option linter.unusedSectionVars false
namespace Go.Proofs.YtpemkbjbbcnddaaGreat
open Go.RowKit Go.Shelf

theorem df_le {a b n r m : Nat} (h2 : b + 1 = a) (h1 : a * 65537 + (n + 1) ≤ m) (hr : r ≤ 65536) : b * 65537 + (n + r) ≤ m - 1 := by
  subst h2
  have e : (b + 1) * 65537 = b * 65537 + 65537 := Nat.succ_mul b 65537
  rw [e] at h1
  generalize b * 65537 = x at h1 ⊢
  omega
/-- The state of the walk from node to node, in memory. -/
structure DF (W : World) (g : Gph) (m : Nat) (out : List Bool) (nx : List Nat) (v : Value) (wr : World) : Prop where
  low : Below W.heap.size W wr
  bs : wr.heap[W.heap.size]? = some (.cells (out.map Value.bool).toArray 4 (0, 0))
  own : wr.ownsRow (W.heap.size + 1) 3 1 v nx.length (nx.map encN)
  inv : DI g out nx
  le : cf out * 65537 + nx.length ≤ m
  sz : cf out * 65537 + nx.length ≤ 4295032833

set_option maxRecDepth 100000 in
set_option maxHeartbeats 12000000 in
theorem reaches_any (p : GProg) (vp : Value) (B : Nat) (w : World) (hB : B ≤ w.heap.size) (h : ProgAt w B vp p) :
    Calls Tryz.prog 4 #[.agg #[vp]] w fun e w' => e = .returned (.bool true) ∧ w.grownBy w' none := by
  have hP := h
  obtain ⟨A, c, rfl, hm, hlc, hcm, hA⟩ := h.open_
  obtain ⟨w1, hw1⟩ : ∃ w1 : World, w1 = w.alloc (.cells #[.slice A p.length c] 24) := ⟨_, rfl⟩
  have hs1 : w1.heap.size = w.heap.size + 1 := by rw [hw1]; simp
  have hg1 : w.grownBy w1 none := by rw [hw1]; exact World.grownBy_alloc w _ none
  have hp1 : w1.heap[w.heap.size]? = some (.cells #[.slice A p.length c] 24 (0, 0)) := by rw [hw1]; exact World.alloc_heap_new w _
  have hcall : ∀ W : World, w1.grownBy W none → W.cell? ⟨w.heap.size, 0, none⟩ = some (.slice A p.length c) ∧ B ≤ W.heap.size ∧ ProgAt W B (.slice A p.length c) p := fun W hg =>
    ⟨(blk_facts ((hg.block _ (by omega) (by simp)).trans hp1)).1 0, by have := hg.size; omega, hP.below funR.keeps (grown_none (grown_trans hg1 hg)) hB⟩
  have Hc := Lib.hid hcall
  have Hg1 := Lib.hid hg1
  clear h hA hP hcall hp1 hg1
  obtain ⟨x1, _, hP1⟩ := Hc.out w1 (World.grownBy.refl _ _)
  have hhv := heavy_any p _ B w1 (by omega) hP1
  clear hP1
  go_enter Tryz.func4, Tryz.ntmps4
  go_upto_region 1 with (fail)
  rw [← hw1]
  clear hw1
  repeat go_step
  refine hhv.mono ?_
  rintro e w2 ⟨⟨hb, rfl⟩, hg2⟩
  clear x1 hhv
  cases hb with
  | true =>
    go_wp2
    go_ret
    exact ⟨rfl, grown_trans Hg1.out hg2⟩
  | false =>
    obtain ⟨x2, hB2, hP2⟩ := Hc.out w2 hg2
    have hck := check_any p _ B w2 hB2 hP2
    clear hP2
    cases hsc : sndChk p with
    | mk r pt =>
      obtain ⟨p1, p2, p3⟩ := pt
      cases hnc : namesChk p with
      | mk r' pt' =>
        obtain ⟨q1, q2, q3⟩ := pt'
        rw [hsc] at hck
        simp only [wrongV, wrongC] at hck
        have Hsc := Lib.hid hsc
        have Hnc := Lib.hid hnc
        clear hsc hnc
        go_upto_region 4 with (first | (go_at_call 8; refine hck.mono ?_; rintro e w3 ⟨rfl, hg3⟩))
        clear hck x2
        obtain ⟨w4, hw4⟩ : ∃ w4 : World, w4 = w3.alloc (.cells #[.int .u8 r, .int .i64 p1, .int .i64 p2, .int .i64 p3] 31) := ⟨_, rfl⟩
        have hg4 : w3.grownBy w4 none := by rw [hw4]; exact World.grownBy_alloc w3 _ none
        have hs4 : w4.heap.size = w3.heap.size + 1 := by rw [hw4]; simp
        have hr4 : w4.heap[w3.heap.size]? = some (.cells #[.int .u8 r, .int .i64 p1, .int .i64 p2, .int .i64 p3] 31 (0, 0)) := by rw [hw4]; exact World.alloc_heap_new w3 _
        have hg24 := grown_trans (grown_trans hg2 hg3) hg4
        obtain ⟨x4, hB4, hP4⟩ := Hc.out w4 hg24
        have hnk := namesCheck_any p _ B w4 hB4 hP4
        rw [Hnc.out] at hnk
        simp only [wrongV, wrongC] at hnk
        clear hP4
        rw [← hw4]
        clear hw4
        go_upto_region 5 with (first | (go_at_call 13; refine hnk.mono ?_; rintro e w5 ⟨rfl, hg5⟩))
        clear hnk x4
        obtain ⟨w6, hw6⟩ : ∃ w6 : World, w6 = w5.alloc (.cells #[.int .u8 r', .int .i64 q1, .int .i64 q2, .int .i64 q3] 31) := ⟨_, rfl⟩
        have hg6 : w5.grownBy w6 none := by rw [hw6]; exact World.grownBy_alloc w5 _ none
        have hs6 : w6.heap.size = w5.heap.size + 1 := by rw [hw6]; simp
        have hr6 : w6.heap[w5.heap.size]? = some (.cells #[.int .u8 r', .int .i64 q1, .int .i64 q2, .int .i64 q3] 31 (0, 0)) := by rw [hw6]; exact World.alloc_heap_new w5 _
        have hr46 := ((grown_trans hg5 hg6).block _ (by omega) (by simp)).trans hr4
        have hg26 := grown_trans hg24 (grown_trans hg5 hg6)
        obtain ⟨j1, _⟩ := blk_facts hr46
        obtain ⟨j2, _⟩ := blk_facts hr6
        rw [← hw6]
        clear hw6 hr4 hr6 hr46 hg6 hg4 hg3
        have Hg26 := Lib.hid hg26
        clear hg26 hg24 hg5 hg2
        by_cases h0 : r' = 0
        · subst h0
          have hn0 : (namesChk p).1 = 0 := by rw [Hnc.out]
          have HN := Lib.hid (show NOk p from (namesOk hn0).2)
          by_cases h1 : r = 0
          · subst h1
            have HS := Lib.hid (sound_ok hn0 (by rw [Hsc.out]))
            clear hn0
            obtain ⟨x6, _, _⟩ := Hc.out w6 Hg26.out
            rw [show (((0 : Nat) : Int)) = 0 from rfl]
            go_wp2_with fail
            clear x6
            go_loopw [5] (fun s5 wr => ∃ i : Nat, i ≤ p.length ∧ s5 = .int .i64 i ∧ Hid (w6.grownBy wr none)) (fun s5 _ => p.length - (intOf s5).toNat)
            case atStart => exact ⟨0, Nat.zero_le _, rfl, World.grownBy.refl _ _⟩
            case round =>
              obtain ⟨i, hil, rfl, hI⟩ := hrel
              obtain ⟨x6, hB6, hP6⟩ := Hc.out wr (grown_trans Hg26.out hI.out)
              by_cases hl : i < p.length
              · obtain ⟨f, bF, offF, hf, hAe, hbF, hrF⟩ := SlAt.at_ hP6 hl
                subst hAe
                obtain ⟨A1, d1, A2, d2, hfn, m1, m2, e0, e1, e2⟩ := funR_open hrF
                have hfok := HN.out.fok hf
                have hn := hfok.of.len
                have hpos := List.length_pos_iff.2 hfok.ne
                have hof := of_any f _ _ B wr hB6 hfn hfok.of
                have Hfok := Lib.hid hfok
                have Hf := Lib.hid hf
                clear hP6 hrF hfn hfok hf
                go_upto_region 13 with (first | (go_at_call 14; refine hof.mono ?_; rintro e w7 ⟨S, S2, base, base2, rfl, hS, hS2, hG, hG2, hb7⟩))
                obtain ⟨W, hW⟩ : ∃ W : World, W = w7.alloc (.cells #[.slice (some ⟨S, 0, none⟩) f.blocks.length f.blocks.length, .slice (some ⟨S2, 0, none⟩) f.blocks.length f.blocks.length] 51) := ⟨_, rfl⟩
                have hgW : w7.grownBy W none := by rw [hW]; exact World.grownBy_alloc _ _ _
                have hsW : W.heap.size = w7.heap.size + 1 := by rw [hW]; simp
                have hbx : W.heap[w7.heap.size]? = some (.cells #[.slice (some ⟨S, 0, none⟩) f.blocks.length f.blocks.length, .slice (some ⟨S2, 0, none⟩) f.blocks.length f.blocks.length] 51 (0, 0)) := by rw [hW]; exact World.alloc_heap_new _ _
                have hgk := succG_ok Hfok.out.of
                have hGW := (hG.kept hgW).graph (n := f.blocks.length) (succG_length _).symm (by unfold maxLen; omega) (fun r hr x hx => by have := hgk.lt r hr x hx; rw [succG_length] at this; omega)
                have HgW := Lib.hid (grown_trans hI.out (grown_trans (below_grown hb7) hgW))
                have hmk := run_mkBools f.blocks.length hn W
                obtain ⟨x7, _⟩ := blk_facts hbx
                have x8 : W.cell? ⟨w7.heap.size, 0, none⟩ = some (.slice (some ⟨S, 0, none⟩) f.blocks.length f.blocks.length) := x7 0
                have hq3 : ((f.blocks.length : Int) == 0) = false := beq_eq_false_iff_ne.2 (by omega)
                have HG := Lib.hid hGW
                have Hgk := Lib.hid hgk
                have Hbx := Lib.hid hbx
                have HsW := Lib.hid hsW
                rw [← hW]
                clear hsW hW hG hG2 hb7 hgW hGW hgk hbx x7 hI x6 e0 e1 e2 hof
                go_upto_region 16 with (fail)
                obtain ⟨g, hg⟩ : ∃ g, g = succG f.blocks := ⟨_, rfl⟩
                have hgl : g.length = f.blocks.length := by rw [hg, succG_length]
                have hD0 : Hid (∃ out nx, nx.length = 1 ∧ DF W g (f.blocks.length * 65537 + 1) out nx (.slice (some ⟨W.heap.size + 1, 0, none⟩) 1 1) ((W.alloc (.cells (Array.replicate f.blocks.length (.bool false)) 4)).alloc (.cells #[.int .i64 0] 3))) := by
                  refine Lib.hid ⟨List.replicate f.blocks.length false, [0], rfl, ?_, ?_, ?_, by rw [← hgl]; exact DI.start (by omega), by simp [cf], by simp [cf]; omega⟩
                  · exact ((Below.refl _ W).alloc (Nat.le_refl _) _).alloc (by simp) _
                  · have := World.alloc_heap_new W (.cells (Array.replicate f.blocks.length (.bool false)) 4)
                    rw [show ((List.replicate f.blocks.length false).map Value.bool).toArray = Array.replicate f.blocks.length (.bool false) by simp]
                    exact seen_alloc this _
                  · have := World.ownsRow_lit (base := W.heap.size + 1) (e := 3) (size := 1) (W.alloc (.cells (Array.replicate f.blocks.length (.bool false)) 4)) #[.int .i64 0] 1 (by simp) (by unfold maxLen; omega) rfl
                    simpa [encN] using this
                rw [← hg] at HG Hgk
                have Hg := Lib.hid hg
                clear hg hmk
                go_wp2_with fail
                obtain ⟨M0, hM0⟩ : ∃ M0, M0 = f.blocks.length * 65537 + 1 := ⟨_, rfl⟩
                rw [← hM0] at hD0
                clear hM0
                go_loopg [9] M0 (fun m s9 wr => ∃ A9 n9 c9, s9 = .slice A9 n9 c9 ∧ Hid (∃ out nx, nx.length = n9 ∧ DF W g m out nx (.slice A9 n9 c9) wr))
                case atStart => exact ⟨_, _, _, rfl, hD0⟩
                case round =>
                  obtain ⟨A9, n9, c9, rfl, hR⟩ := hrel
                  obtain ⟨out, nx, h9, hD⟩ := hR.out
                  clear hD0 hR x8
                  rcases List.eq_nil_or_concat nx with rfl | ⟨ny, k, e⟩
                  · obtain rfl : n9 = 0 := h9.symm
                    clear h9
                    have hall : ∀ k, k < f.blocks.length → out[k]? = some true := fun k hk => hD.inv.done (by rw [Hg.out]; exact HS.out.reach Hf.out hk)
                    have HD := Lib.hid hD
                    have Hall := Lib.hid hall
                    clear hD hall
                    go_wp2_with fail
                    have hlowE := HD.out.low
                    have hbxE := (hlowE.block _ (seen_lt Hbx.out)).trans Hbx.out
                    have d0 : wr.cell? ⟨w7.heap.size, 0, none⟩ = some (.slice (some ⟨S, 0, none⟩) f.blocks.length f.blocks.length) := (blk_facts hbxE).1 0
                    obtain ⟨s1, _⟩ := blk_facts HD.out.bs
                    have Hs1 := Lib.hid s1
                    have Hlow := Lib.hid hlowE
                    clear hlowE hbxE s1
                    obtain ⟨wE, hwE⟩ : ∃ wE : World, wE = wr := ⟨_, rfl⟩
                    rw [← hwE] at Hs1 Hlow d0
                    go_loopw [11] (fun s11 wx => ∃ j : Nat, j ≤ f.blocks.length ∧ s11 = .int .i64 j ∧ Hid (wE = wx)) (fun s11 _ => f.blocks.length - (intOf s11).toNat)
                    case atStart => exact ⟨0, Nat.zero_le _, rfl, hwE⟩
                    case round =>
                      obtain ⟨j, hjl, rfl, hwj⟩ := hrel
                      clear hwE
                      obtain rfl := hwj.out
                      clear hwj
                      by_cases hlj : j < f.blocks.length
                      · have c5 : wE.cell? ⟨W.heap.size, j, none⟩ = some (.bool true) := by rw [Hs1.out]; simp [Hall.out j hlj]
                        obtain ⟨r, bS, offS, hr, eS, hbS, hrS⟩ := (HG.out.below rowR.keeps Hlow.out (Nat.le_refl _)).at1 (show j < g.length by omega)
                        cases eS
                        obtain ⟨vr, hvr, hrow2⟩ := hrS
                        obtain ⟨AR, dR, rfl, mR, hlR, hcR, hR2⟩ := hrow2.open_
                        have d1' : wE.cell? ⟨S, j, none⟩ = some (.slice AR r.length dR) := by simpa using hvr
                        have hr0 : ∀ x ∈ r, x ≠ 0 := fun x hx => HS.out.back HN.out Hf.out (k := j) (by rw [← Hg.out, row_of hr]; exact hx)
                        have HR2 := Lib.hid hR2
                        have Hr0 := Lib.hid hr0
                        clear hr hvr hrow2 hR2 hr0
                        go_wp2_with fail
                        clear c5
                        go_loopw [12] (fun s12 wx => ∃ l : Nat, l ≤ r.length ∧ s12 = .int .i64 l ∧ Hid (wE = wx)) (fun s12 _ => r.length - (intOf s12).toNat)
                        case atStart => exact ⟨0, Nat.zero_le _, rfl, rfl⟩
                        case round =>
                          obtain ⟨l, hll, rfl, hwl⟩ := hrel
                          obtain rfl := hwl.out
                          clear hwl
                          by_cases hlr : l < r.length
                          · obtain ⟨x, b5, off5, hx, rfl, hb5, hx5⟩ := HR2.out.at1 hlr
                            have hx0 := Hr0.out x (List.mem_of_getElem? hx)
                            have c6 := hx5.1
                            have hx1 : ((x : Int) == 0) = false := beq_eq_false_iff_ne.2 (by omega)
                            clear hx hx5
                            go_wp2
                            go_roundw
                            case rel => exact ⟨l + 1, by omega, by go_num, Lib.hid (by first | rfl | trivial)⟩
                            case measure => simp [intOf]; omega
                          · go_wp2
                            go_roundw
                            case rel => exact ⟨j + 1, by omega, by go_num, Lib.hid (by first | rfl | trivial)⟩
                            case measure => simp [intOf]; omega
                      · go_wp2
                        go_roundw
                        case rel => exact ⟨i + 1, by omega, by go_num, grown_trans HgW.out (below_grown Hlow.out)⟩
                        case measure => simp [intOf]; omega
                  · rw [List.concat_eq_append] at e
                    subst e
                    obtain rfl : n9 = ny.length + 1 := by rw [← h9]; simp
                    have ho := hD.own
                    simp only [List.length_append, List.length_cons, List.length_nil, Nat.zero_add] at ho
                    obtain ⟨_, _, e7, hd1, hd2, _, _⟩ := owns_slice ho
                    injection e7 with e71 e72 e73
                    subst e71; subst e73; clear e72
                    obtain ⟨b, rfl, hb1, hb2, hci⟩ := owns_at (k := ny.length) (x := k) ho (by simp)
                    have hkg : k < g.length := hD.inv.lt k (by simp)
                    have hkl : k < f.blocks.length := by omega
                    have hlen := hD.inv.len
                    have hbs := hD.bs
                    obtain ⟨s1, s2⟩ := blk_facts hbs
                    have hle := hD.le
                    have hd3 : ny.length ≤ c9 := by omega
                    have hk1 : ¬ ((k : Int) < 0) := by omega
                    have hk2 : decide ((k : Int) < 0) = false := by simp
                    have hk3 : ¬ ((f.blocks.length : Int) ≤ (k : Int)) := by omega
                    have hp : wr.ownsRow (W.heap.size + 1) 3 1 (.slice (some ⟨b, 0, none⟩) ny.length c9) ny.length (ny.map encN) := owns_prefix (by have := hD.own; simp only [List.length_append, List.length_cons, List.length_nil, Nat.zero_add, List.map_append] at this; exact this) (by simp)
                    have Hp := Lib.hid hp
                    have Hle := Lib.hid (show cf out * 65537 + (ny.length + 1) ≤ gk by simpa using hle)
                    have Hsz := Lib.hid (show cf out * 65537 + (ny.length + 1) ≤ 4295032833 by simpa using hD.sz)
                    have hlow := hD.low
                    have hszl := hlow.size
                    have hbl : b ≠ W.heap.size := by omega
                    cases hsk : out[k]? with
                    | none => rw [List.getElem?_eq_none_iff] at hsk; omega
                    | some sk =>
                      have c8 : wr.cell? ⟨W.heap.size, k, none⟩ = some (.bool sk) := by rw [s1]; simp [hsk]
                      cases sk with
                      | true =>
                        have HI := Lib.hid (hD.inv.skip hsk)
                        have Hlow := Lib.hid hlow
                        have Hbs := Lib.hid hbs
                        clear hD ho h9 hp hle hbs s1 s2 hsk hlow
                        repeat go_step
                        go_roundg (gk - 1)
                        case measure => have := Hle.out; omega
                        case rel => exact ⟨_, _, _, rfl, Lib.hid ⟨out, ny, rfl, Hlow.out, Hbs.out, Hp.out, HI.out, by have := Hle.out; omega, by have := Hsz.out; omega⟩⟩
                      | false =>
                        have c9' := s2 k
                        have hlenk := hD.inv.take Hgk.out
                        obtain ⟨r, hr⟩ : ∃ r, g[k]? = some r := ⟨_, List.getElem?_eq_getElem hkg⟩
                        have hrow := row_of hr
                        have hrl := Hgk.out.rowLen (List.mem_of_getElem? hr)
                        rw [hrow] at hlenk
                        have hcf := cf_set hsk
                        obtain ⟨r', bS, offS, hr', eS, hbS, hrS⟩ := (HG.out.below rowR.keeps hlow (Nat.le_refl _)).at1 (show k < g.length by omega)
                        rw [hr] at hr'
                        cases hr'
                        cases eS
                        obtain ⟨vr, hvr, hrow2⟩ := hrS
                        obtain ⟨AR, dR, rfl, mR, hlR, hcR, hR2⟩ := hrow2.open_
                        have hbx9 := (hlow.block _ (seen_lt Hbx.out)).trans Hbx.out
                        have d0 : wr.cell? ⟨w7.heap.size, 0, none⟩ = some (.slice (some ⟨S, 0, none⟩) f.blocks.length f.blocks.length) := (blk_facts hbx9).1 0
                        have d1' : wr.cell? ⟨S, k, none⟩ = some (.slice AR r.length dR) := by simpa using hvr
                        have HI := Lib.hid hlenk
                        have Hlow := Lib.hid hlow
                        have Hbs := Lib.hid hbs
                        have Hcf := Lib.hid hcf
                        have HR2 := Lib.hid hrow2
                        have hSl : S < W.heap.size := hbS
                        have hTl : w7.heap.size < W.heap.size := by have := HsW.out; omega
                        have hnS : S ≠ W.heap.size := by omega
                        have hnT : w7.heap.size ≠ W.heap.size := by omega
                        clear hD ho h9 hp hle hbs s1 s2 hlow hsk hlenk hrow hr hvr hrow2 hR2 hbx9 hcf hcR
                        go_upto_region 24 with (fail)
                        obtain ⟨w9, hw9⟩ : ∃ w9 : World, w9 = wr.setCell ⟨W.heap.size, k, none⟩ (.bool true) := ⟨_, rfl⟩
                        have hg9 : wr.grownBy w9 (some W.heap.size) := by rw [hw9]; exact grown_setRow (World.grownBy.refl _ _) rfl _
                        have hs9 : w9.heap.size = wr.heap.size := by rw [hw9]; simp [World.setCell]
                        have hbs9 : w9.heap[W.heap.size]? = some (.cells ((out.set k true).map Value.bool).toArray 4 (0, 0)) := by
                          rw [hw9, show ((out.set k true).map Value.bool).toArray = ((out.map Value.bool).toArray).setIfInBounds k (.bool true) by simp [List.map_set]]
                          exact set_blk Hbs.out k _
                        have e0' : w9.cell? ⟨w7.heap.size, 0, none⟩ = some (.slice (some ⟨S, 0, none⟩) f.blocks.length f.blocks.length) := (World.cell?_of_block (hg9.block _ (by simp; omega) (by simp; omega))).trans d0
                        have e1' : w9.cell? ⟨S, k, none⟩ = some (.slice AR r.length dR) := (World.cell?_of_block (hg9.block _ (by simp; omega) (by simp; omega))).trans d1'
                        have hlow9 : Below W.heap.size wr w9 := grown_below (Below.refl _ _) hg9 hszl (fun r e => by cases e; exact Nat.le_refl _)
                        have hp9 := Hp.out.kept hg9 (.inr (by simp [Value.ownBlock]; omega))
                        have hr9 := HR2.out.below natR.keeps hlow9 (Nat.le_refl _)
                        have Hbs9 := Lib.hid hbs9
                        have Hlow9 := Lib.hid (Hlow.out.trans hlow9)
                        have hny : (ny.length + r.length) * 8 ≤ 140737488355328 := by have := Hsz.out; omega
                        have hnx : ny.length + r.length ≤ maxLen := by have := Hsz.out; unfold maxLen; omega
                        have hb9 : W.heap.size + 1 ≤ w9.heap.size := by have := seen_lt hbs9; omega
                        have Hny := Lib.hid hny
                        have Hnx := Lib.hid hnx
                        have Hb9 := Lib.hid hb9
                        clear hny hnx hb9
                        rw [← hw9]
                        clear hw9 d0 d1' c8 c9' hci hbs9 hlow9 hk1 hk2 hk3 hd3 hd1 hd2 hq3
                        go_wp2_with (refine wpList_appendSl rfl (.tmp 96) (.tmp 101) 56 rfl (W.heap.size + 1) 3 (.int .i64 0) 8 Tryz.underlying56 intInfo rfl encN (fun _ => rfl) (R := natR) (fun _ _ _ _ _ h => h.1) (.slice (some ⟨b, 0, none⟩) ny.length c9) ny rfl hp9 W.heap.size (.slice AR r.length dR) r rfl hr9 Hnx.out Hny.out Hb9.out ?_; intro v10 w10 ho10 hg10 hor10; obtain ⟨A10, d10, rfl, _, _, _, _⟩ := owns_slice ho10)
                        go_roundg (gk - 1)
                        case measure => have := Hle.out; omega
                        case rel =>
                          have hlt10 : W.heap.size + 1 ≤ b := hb1
                          have hne : some W.heap.size ≠ (Value.slice (some ⟨b, 0, none⟩) ny.length c9).ownBlock := by simp [Value.ownBlock]; omega
                          refine ⟨_, _, _, rfl, Lib.hid ⟨out.set k true, ny ++ r, by rw [List.length_append], ?_, ?_, by rw [List.length_append] at ho10 ⊢; exact ho10, HI.out, ?_, ?_⟩⟩
                          · exact grown_below Hlow9.out hg10 (by have := Hlow9.out.size; omega) (fun r e => by simp [Value.ownBlock] at e; omega)
                          · exact (hg10.block _ (seen_lt Hbs9.out) hne).trans Hbs9.out
                          · rw [show (ny ++ r).length = ny.length + r.length from List.length_append]
                            exact df_le Hcf.out Hle.out hrl
                          · rw [show (ny ++ r).length = ny.length + r.length from List.length_append]
                            exact Nat.le_trans (df_le Hcf.out Hsz.out hrl) (Nat.sub_le _ _)
              · have hch := fun W => checks_any W
                go_wp2_with (go_at_call 9; refine (hch _).mono ?_; rintro e w7 ⟨rfl, hg7⟩)
                go_ret
                exact ⟨rfl, grown_trans (grown_trans (grown_trans Hg1.out Hg26.out) hI.out) hg7⟩
          · have hbad := sound_bad hn0 (by rw [Hsc.out]; exact h1)
            rw [Hsc.out] at hbad
            have hq1 : ((r : Int) != 0) = true := by simp [h1]
            have hq2 : decide ((16 : Int) < (r : Int)) = true := decide_eq_true (by have := hbad.1; simp only at this; omega)
            have hch := fun W => checks_any W
            clear hn0
            go_wp2_with (go_at_call 9; refine (hch _).mono ?_; rintro e w7 ⟨rfl, hg7⟩)
            go_ret
            exact ⟨rfl, grown_trans (grown_trans Hg1.out Hg26.out) hg7⟩
        · have hsn := sndChk_names (p := p) (by rw [Hnc.out]; exact h0)
          rw [Hsc.out, Hnc.out] at hsn
          simp only [Prod.mk.injEq] at hsn
          obtain ⟨rfl, rfl, rfl, rfl⟩ := hsn
          have hq1 : ((r : Int) != 0) = true := by simp [h0]
          have hch := fun W => checks_any W
          go_wp2_with (go_at_call 9; refine (hch _).mono ?_; rintro e w7 ⟨rfl, hg7⟩)
          go_ret
          exact ⟨rfl, grown_trans (grown_trans Hg1.out Hg26.out) hg7⟩
end Go.Proofs.YtpemkbjbbcnddaaGreat

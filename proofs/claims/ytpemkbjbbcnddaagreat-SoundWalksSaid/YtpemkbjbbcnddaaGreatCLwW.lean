/- gnomonlaw11.SoundWalks answers true: the walk. Condition: the program and the choices lie in memory. -/
import Derived.Test.YtpemkbjbbcnddaaGreatCLwX
import Derived.Test.YtpemkbjbbcnddaaGreatCLwB
import Derived.Test.YtpemkbjbbcnddaaGreatCLwC
import Derived.Test.YtpemkbjbbcnddaaGreatCLwH
import Derived.Deep.DeepCutAuto
import Derived.Deep.RegionHeld3
import Derived.Deep.RegionLaw
set_option linter.unusedVariables false
set_option linter.unusedSimpArgs false
set_option linter.unusedSectionVars false
namespace Go.Proofs.YtpemkbjbbcnddaaGreat
open Go.RowKit Go.Shelf

set_option maxRecDepth 100000 in
set_option maxHeartbeats 20000000 in
theorem walks_any (p : GProg) (vp vc : Value) (which : Int) (cs : List Nat) (B : Nat) (w : World) (hB : B ≤ w.heap.size) (h : ProgAt w B vp p) (hw1 : -9223372036854775808 ≤ which) (hw2 : which ≤ 9223372036854775807) (hcs : SlAt u8R 1 w B vc cs) :
    Calls Tryz.prog 3 #[.agg #[vp], .int .i64 which, vc] w fun e w' => e = .returned (.bool true) ∧ w.grownBy w' none := by
  have hP := h
  obtain ⟨A, c, rfl, hm, hlc, hcm, hA⟩ := h.open_
  obtain ⟨AC, cc, rfl, hmC, hlC, hcC, hC⟩ := hcs.open_
  obtain ⟨w1, hw1'⟩ : ∃ w1 : World, w1 = w.alloc (.cells #[.slice A p.length c] 24) := ⟨_, rfl⟩
  have hs1 : w1.heap.size = w.heap.size + 1 := by rw [hw1']; simp
  have hg1 : w.grownBy w1 none := by rw [hw1']; exact World.grownBy_alloc w _ none
  have hp1 : w1.heap[w.heap.size]? = some (.cells #[.slice A p.length c] 24 (0, 0)) := by rw [hw1']; exact World.alloc_heap_new w _
  have hcall : ∀ W : World, w1.grownBy W none → W.cell? ⟨w.heap.size, 0, none⟩ = some (.slice A p.length c) ∧ B ≤ W.heap.size ∧ ProgAt W B (.slice A p.length c) p ∧ SlAt u8R 1 W B (.slice AC cs.length cc) cs := fun W hg =>
    ⟨(blk_facts ((hg.block _ (by omega) (by simp)).trans hp1)).1 0, by have := hg.size; omega, hP.below funR.keeps (grown_none (grown_trans hg1 hg)) hB, hC.below u8R.keeps (grown_none (grown_trans hg1 hg)) hB⟩
  have Hc := Lib.hid hcall
  have Hg1 := Lib.hid hg1
  have HP0 := Lib.hid hP
  have HC0 := Lib.hid hC
  clear h hA hP hcall hp1 hg1 hcs hC
  obtain ⟨x1, _, hP1, _⟩ := Hc.out w1 (World.grownBy.refl _ _)
  have hhv := heavy_any p _ B w1 (by omega) hP1
  clear hP1
  go_enter Tryz.func3, Tryz.ntmps3
  go_upto_region 1 with (fail)
  rw [← hw1']
  clear hw1'
  repeat go_step
  refine hhv.mono ?_
  rintro e w2 ⟨⟨hb, rfl⟩, hg2⟩
  clear x1 hhv
  cases hb with
  | true =>
    go_wp2
    go_ret
    exact ⟨rfl, grown_trans Hg1.out hg2⟩
  | false =>
    by_cases h60 : 60 < cs.length
    · have h60' : (60 : Int) < (cs.length : Int) := by omega
      go_wp2
      go_ret
      exact ⟨rfl, grown_trans Hg1.out hg2⟩
    · have h60' : ¬ (60 : Int) < (cs.length : Int) := by omega
      obtain ⟨x2, hB2, hP2, _⟩ := Hc.out w2 hg2
      have hck := check_any p _ B w2 hB2 hP2
      clear hP2
      cases hsc : sndChk p with
      | mk r pt =>
        obtain ⟨p1, p2, p3⟩ := pt
        rw [hsc] at hck
        simp only [wrongV, wrongC] at hck
        have Hsc := Lib.hid hsc
        have hr21 : r ≤ 21 := by have := snd_le (p := p); rw [hsc] at this; exact this
        clear hsc
        go_upto_region 4 with (first | (go_at_call 8; refine hck.mono ?_; rintro e w3 ⟨rfl, hg3⟩))
        obtain ⟨w4, hw4⟩ : ∃ w4 : World, w4 = w3.alloc (.cells #[.int .u8 r, .int .i64 p1, .int .i64 p2, .int .i64 p3] 31) := ⟨_, rfl⟩
        have hg4 : w3.grownBy w4 none := by rw [hw4]; exact World.grownBy_alloc w3 _ none
        have hr4 : w4.heap[w3.heap.size]? = some (.cells #[.int .u8 r, .int .i64 p1, .int .i64 p2, .int .i64 p3] 31 (0, 0)) := by rw [hw4]; exact World.alloc_heap_new w3 _
        have Hg14 := Lib.hid (grown_trans (grown_trans hg2 hg3) hg4)
        obtain ⟨j1, _⟩ := blk_facts hr4
        rw [← hw4]
        clear hw4 hr4 hg4 hg3 hck x2
        by_cases h0 : r = 0
        · subst h0
          have hn0 := snd_zero (p := p) (by rw [Hsc.out])
          have HN := Lib.hid (show NOk p from (namesOk hn0).2)
          have HS := Lib.hid (sound_ok hn0 (by rw [Hsc.out]))
          clear hn0
          rw [show (((0 : Nat) : Int)) = 0 from rfl]
          obtain ⟨x4, hB4, hP4, _⟩ := Hc.out w4 Hg14.out
          have hpn := HN.out.funcs
          have hpl := fun W : World => place_any which p.length W hw1 hw2 hpn.1 (by omega)
          obtain ⟨f9, bF, offF, _, hAe, hbF, _⟩ := SlAt.at_ hP4 hpn.1
          subst hAe
          have hfk : ∀ k, k < p.length → ∃ (f : GFun) (A1 : Option Addr) (d1 : Nat) (A2 : Option Addr) (d2 : Nat), p[k]? = some f ∧ FunAt w B f (.slice A1 f.params.length d1) (.slice A2 f.blocks.length d2) ∧
              w4.cell? ⟨bF, offF + k * 3, none⟩ = some (.string ⟨f.name.toArray⟩) ∧ w4.cell? ⟨bF, offF + k * 3 + 1, none⟩ = some (.slice A1 f.params.length d1) ∧ w4.cell? ⟨bF, offF + k * 3 + 2, none⟩ = some (.slice A2 f.blocks.length d2) := fun k hk => by
            obtain ⟨f, b', off', hf, hAe, hbF, hrF⟩ := SlAt.at_ HP0.out hk
            cases hAe
            obtain ⟨A1, d1, A2, d2, hfn, m1, m2, e0, e1, e2⟩ := funR_open hrF
            have hb04 : Below w.heap.size w w4 := grown_none (grown_trans Hg1.out Hg14.out)
            exact ⟨f, A1, d1, A2, d2, hf, hfn, cur hb04 (by omega) e0, cur hb04 (by omega) e1, cur hb04 (by omega) e2⟩
          have Hfk := Lib.hid hfk
          have hs4 := Hg14.out.size
          clear hP4 hfk
          go_upto_region 6 with (fail)
          go_cut [8] (fun s8 wx => ∃ (k : Nat) (f : GFun) (A1 : Option Addr) (d1 : Nat) (A2 : Option Addr) (d2 : Nat), s8 = .pointer (some ⟨w4.heap.size, 0, none⟩) ∧ Hid (p[k]? = some f) ∧ Hid (FunAt w B f (.slice A1 f.params.length d1) (.slice A2 f.blocks.length d2)) ∧ Hid (w4.grownBy wx none) ∧ Hid (wx.heap[w4.heap.size]? = some (.cells #[.string ⟨f.name.toArray⟩, .slice A1 f.params.length d1, .slice A2 f.blocks.length d2] 37 (0, 0))))
          case first =>
            have hbl : bF < w4.heap.size := by omega
            have hbn : bF ≠ w4.heap.size := by omega
            have hka : ∀ (o : Obj) (j : Nat), ((w4.drew).alloc o).cell? ⟨bF, j, none⟩ = w4.cell? ⟨bF, j, none⟩ := fun o j => World.cell?_of_block (Below.heap_alloc w4.drew o bF hbl)
            have hxa : ∀ (o : Obj), ((w4.drew).alloc o).cell? ⟨w.heap.size, 0, none⟩ = some (.slice (some ⟨bF, offF, none⟩) p.length c) := fun o => (World.cell?_of_block (Below.heap_alloc w4.drew o w.heap.size (by show w.heap.size < w4.heap.size; omega))).trans x4
            go_region_held3 (fun w' => w'.cell? ⟨w.heap.size, 0, none⟩ = some (.slice (some ⟨bF, offF, none⟩) p.length c) ∧ ∀ j, w'.cell? ⟨bF, j, none⟩ = w4.cell? ⟨bF, j, none⟩) (first | exact ⟨x4, fun _ => rfl⟩ | exact ⟨hxa _, hka _⟩ | go_keep)
              (first
                | (go_at_call 10; refine (hpl _).mono ?_; rintro e w' ⟨⟨k, hk, rfl⟩, rfl⟩; obtain ⟨f, A1, d1, A2, d2, hf, hfn, e0, e1, e2⟩ := Hfk.out k hk; have Hf := Lib.hid hf; have Hfn := Lib.hid hfn; have hk3 : (k : Int) < (p.length : Int) := Int.ofNat_lt.2 hk; clear hf hfn))
            all_goals (go_wp2_with fail; go_meet)
            all_goals exact ⟨k, f, A1, d1, A2, d2, rfl, Hf, Hfn, Lib.hid (grown_alloc (grown_drew' (World.grownBy.refl w4 none)) _), Lib.hid (World.alloc_heap_new w4.drew _)⟩
          case rest =>
            obtain ⟨k, f, A1, d1, A2, d2, rfl, Hf, Hfn, hgc, hfb⟩ := hcut
            clear hpl Hfk x4
            have hmm : ∀ w : World, (Instr.makeMap 39 none).run Tryz.prog w = .ok (.map (some w.heap.size)) (w.alloc (mobj encS Value.bool [])) := @run_makeMap Tryz.prog 39
            have hmp := World.alloc_heap_new wc (mobj encS Value.bool [])
            have hI0 : WM w wc.heap.size w4.heap.size f A1 d1 A2 d2 [] (wc.alloc (mobj encS Value.bool [])) :=
              ⟨(grown_none (grown_trans (grown_trans Hg1.out Hg14.out) hgc.out)).alloc (by have := hgc.out.size; omega) _, hmp, seen_alloc hfb.out _, by have := hgc.out.size; omega, by omega, by have := seen_lt hfb.out; omega⟩
            have hrun : (Instr.mapUpdate 39 (.map (some wc.heap.size)) (.string ⟨#[110, 117, 108, 108]⟩) (.bool true)).run Tryz.prog (wc.alloc (mobj encS Value.bool [])) = .ok () ((wc.alloc (mobj encS Value.bool [])).putObj wc.heap.size (mobj encS Value.bool (aset ([] : List (Str × Bool)) nought true))) :=
              run_mapSet (P := Tryz.prog) (keyS Tryz.underlying9) Tryz.underlying39 hmp nought true
            have HI1 := Lib.hid (hI0.put (m' := aset ([] : List (Str × Bool)) nought true))
            clear hI0 hmp
            go_upto_region 8 with (fail)
            obtain ⟨wm, hwm⟩ : ∃ wm : World, wm = (wc.alloc (mobj encS Value.bool [])).putObj wc.heap.size (mobj encS Value.bool (aset ([] : List (Str × Bool)) nought true)) := ⟨_, rfl⟩
            rw [← hwm] at HI1
            rw [← hwm]
            clear hwm hrun hmm
            obtain ⟨M, hM⟩ : ∃ M : Nat, M = wc.heap.size := ⟨_, rfl⟩
            obtain ⟨FB, hFB⟩ : ∃ FB : Nat, FB = w4.heap.size := ⟨_, rfl⟩
            rw [← hM, ← hFB] at HI1
            rw [← hM, ← hFB]
            clear hM hFB hfb
            have h0b := (HN.out.blocks Hf.out).1
            obtain ⟨A1', d1', hAe, mp, _, _, hPP⟩ := Hfn.out.params.open_
            simp only [Value.slice.injEq] at hAe
            obtain ⟨rfl, _, rfl⟩ := hAe
            obtain ⟨A2', d2', hAe, mb, _, _, hBB⟩ := Hfn.out.blocks.open_
            simp only [Value.slice.injEq] at hAe
            obtain ⟨rfl, _, rfl⟩ := hAe
            have HPP := Lib.hid hPP
            have HBB := Lib.hid hBB
            clear hPP hBB hgc
            have hch := fun W => checks_any W
            have e1 : wm.cell? ⟨FB, 1, none⟩ = some (.slice A1 f.params.length d1) := (blk_facts HI1.out.fb).1 1
            go_wp2_with fail
            go_loopw [10] (fun s10 wr => ∃ k : Nat, k ≤ f.params.length ∧ s10 = .int .i64 k ∧ Hid (WM w M FB f A1 d1 A2 d2 (parM (f.params.take k)) wr)) (fun s10 _ => f.params.length - (intOf s10).toNat)
            case atStart => exact ⟨0, Nat.zero_le _, rfl, HI1⟩
            case round =>
              obtain ⟨k, hkl, rfl, hJ⟩ := hrel
              clear HI1 e1
              have e1 : wr.cell? ⟨FB, 1, none⟩ = some (.slice A1 f.params.length d1) := (blk_facts hJ.out.fb).1 1
              by_cases hl : k < f.params.length
              · obtain ⟨s, b7, off7, hs, rfl, hb7, hr7⟩ := HPP.out.at1 hl
                have c7 := cur hJ.out.low (by omega) hr7.1
                have hrun := run_mapSet (P := Tryz.prog) (keyS Tryz.underlying9) Tryz.underlying39 hJ.out.map s true
                have hnext := hJ.out.put (m' := aset (parM (f.params.take k)) s true)
                rw [← parM_more hs] at hrun hnext
                simp only [encS] at hrun
                have Hnext := Lib.hid hnext
                clear hnext hr7 hs
                go_wp2_with fail
                go_roundw
                case rel => exact ⟨k + 1, by omega, by go_num, Hnext⟩
                case measure => simp [intOf]; omega
              · have hk : k = f.params.length := by omega
                subst hk
                rw [List.take_length] at hJ
                have HW0 := Lib.hid (Wlk.start f h0b)
                go_wp2_with fail
                go_loopw [11, 12, 13] (fun s11 s12 s13 wr => ∃ (i k : Nat) (fs : Str) (vs : List Nat) (m : List (Str × Bool)), s11 = .int .i64 k ∧ s12 = .string ⟨fs.toArray⟩ ∧ s13 = .int .i64 i ∧ i ≤ cs.length ∧ Hid (Wlk f vs k fs m) ∧ Hid (WM w M FB f A1 d1 A2 d2 m wr)) (fun _ _ s13 _ => cs.length + 1 - (intOf s13).toNat)
                case atStart => exact ⟨0, 0, [], [], _, rfl, rfl, rfl, Nat.zero_le _, HW0, hJ⟩
                case round =>
                  rename World => wo
                  obtain ⟨i, k, fs, vs, m, rfl, rfl, rfl, hil, hW, hI⟩ := hrel
                  clear HW0 hJ e1
                  obtain ⟨y, b1, off1, hy, rfl, hbB1, hr1⟩ := HBB.out.at_ hW.out.on.lt
                  obtain ⟨A5, d5, hyy, m5, g0, g1⟩ := blkR_open hr1
                  have hkl := hW.out.on.lt
                  have hlow := hI.out.low
                  replace g0 := cur hlow (by omega) g0
                  replace g1 := cur hlow (by omega) g1
                  have e2 : wo.cell? ⟨FB, 2, none⟩ = some (.slice (some ⟨b1, off1, none⟩) f.blocks.length d2) := (blk_facts hI.out.fb).1 2
                  have Hyy := Lib.hid hyy
                  have Hy := Lib.hid hy
                  have hcne := (HN.out.ends Hf.out hy).1
                  have hcl : 0 < y.code.length := List.length_pos_iff.2 hcne
                  have hc4 := HN.out.code Hf.out hy
                  have hMs : M < wo.heap.size := seen_lt hI.out.map
                  have hFs : FB < wo.heap.size := seen_lt hI.out.fb
                  have hil2 : (i : Int) ≤ (cs.length : Int) := Int.ofNat_le.2 hil
                  clear hr1 hy hyy hlow hcne
                  go_wp2_with fail
                  go_loopw [15, 16] (fun s15 s16 wx => ∃ (j : Nat) (A8 : Option Addr) (c8 : Nat) (lt : List Str) (m' : List (Str × Bool)), s15 = .slice A8 lt.length c8 ∧ s16 = .int .i64 j ∧ j ≤ y.code.length ∧ Hid (lt = lateL y.code j) ∧ Hid (wx.ownsRow wo.heap.size 9 1 (.slice A8 lt.length c8) lt.length (lt.map encS)) ∧ Hid (Wlk f vs k fs m') ∧ Hid (CodeOk y.code j m') ∧ Hid (wo.heap.size ≤ wx.heap.size) ∧ Hid (WM w M FB f A1 d1 (some ⟨b1, off1, none⟩) d2 m' wx)) (fun _ s16 _ => y.code.length - (intOf s16).toNat)
                  case atStart => exact ⟨0, none, 0, [], m, rfl, rfl, Nat.zero_le _, Lib.hid (by first | rfl | trivial), Lib.hid (World.ownsRow_nil _ _ _ _), hW, Lib.hid (CodeOk.zero _ _), Lib.hid (by first | exact Nat.le_refl _ | trivial), hI⟩
                  case round =>
                    obtain ⟨j, A8, c8, lt, m', rfl, rfl, hjl, hlt, ho, hW', hC, hsz, hI'⟩ := hrel
                    clear hW hI g1 e2
                    have hszx := hsz.out
                    by_cases hl2 : j < y.code.length
                    · obtain ⟨z, b3, off3, hz, rfl, hbB3, hr3⟩ := Hyy.out.code.at_ hl2
                      obtain ⟨A6, d6, A7, d7, hzz, m6, m7, g0', g1, g2, g3, g4, g5, g6, g7⟩ := insR_open hr3
                      have hlow := hI'.out.low
                      have hlw := hlow.size
                      have hbn3 : b3 ≠ wr.heap.size := by omega
                      have hbl3 : b3 < wr.heap.size := by omega
                      replace g0' := cur hlow (by omega) g0'
                      replace g1 := cur hlow (by omega) g1
                      replace g2 := cur hlow (by omega) g2
                      replace g3 := cur hlow (by omega) g3
                      replace g4 := cur hlow (by omega) g4
                      replace g5 := cur hlow (by omega) g5
                      replace g6 := cur hlow (by omega) g6
                      replace g7 := cur hlow (by omega) g7
                      have Hz := Lib.hid hz
                      have Hzz := Lib.hid hzz
                      clear hr3 hz hzz hlow
                      go_upto_region 22 with (fail)
                      obtain ⟨W, hWd⟩ : ∃ W : World, W = wr.alloc (.cells #[.int .u8 z.op, .string ⟨z.dst.toArray⟩, .string ⟨z.a.toArray⟩, .string ⟨z.b.toArray⟩, .int .i64 z.n, .string ⟨z.fn.toArray⟩, .slice A6 z.args.length d6, .slice A7 z.labels.length d7] 45) := ⟨_, rfl⟩
                      have hWs : wr.heap.size < W.heap.size := by rw [hWd]; simp
                      have hgW : wr.grownBy W none := by rw [hWd]; exact World.grownBy_alloc _ _ _
                      have hbx : W.heap[wr.heap.size]? = some (.cells #[.int .u8 z.op, .string ⟨z.dst.toArray⟩, .string ⟨z.a.toArray⟩, .string ⟨z.b.toArray⟩, .int .i64 z.n, .string ⟨z.fn.toArray⟩, .slice A6 z.args.length d6, .slice A7 z.labels.length d7] 45 (0, 0)) := by rw [hWd]; exact World.alloc_heap_new wr _
                      have HoW := Lib.hid (ho.out.kept hgW (by cases (Value.slice A8 lt.length c8).ownBlock <;> simp))
                      have HIW := Lib.hid (hI'.out.grow hgW (fun r e => by cases e))
                      rw [← hWd]
                      clear hWd hgW g0' g1 g2 g3 g4 g5 g6 g7 hbn3 hbl3 ho hI'
                      have i0 : W.cell? ⟨wr.heap.size, 0, none⟩ = some (.int .u8 z.op) := (blk_facts hbx).1 0
                      have Hbx := Lib.hid hbx
                      clear hbx
                      have hxn : M ≠ wr.heap.size := by omega
                      cases q1 : z.op == 6 with
                      | true =>
                        have h6 : z.op = 6 := by simpa using q1
                        have q2 : ((z.op : Int) == 6) = true := by rw [h6]; rfl
                        obtain ⟨hn1, hargs⟩ := Wlk.phi HN.out HS.out Hf.out hW'.out Hy.out Hz.out h6
                        have hal := HN.out.phi Hf.out Hy.out Hz.out h6
                        have Hn1 := Lib.hid hn1
                        have Hargs := Lib.hid hargs
                        have HL := Lib.hid (Hzz.out.labels.below strR.keeps HIW.out.low hB)
                        have HA := Lib.hid (Hzz.out.args.below strR.keeps HIW.out.low hB)
                        have i7 : W.cell? ⟨wr.heap.size, 7, none⟩ = some (.slice A7 z.labels.length d7) := (blk_facts Hbx.out).1 7
                        have i6 : W.cell? ⟨wr.heap.size, 6, none⟩ = some (.slice A6 z.args.length d6) := (blk_facts Hbx.out).1 6
                        have i1 : W.cell? ⟨wr.heap.size, 1, none⟩ = some (.string ⟨z.dst.toArray⟩) := (blk_facts Hbx.out).1 1
                        clear hn1 hargs
                        go_wp2_with fail
                        go_loopw [18, 19] (fun s18 s19 wy => ∃ (n q : Nat), s18 = .int .i64 n ∧ s19 = .int .i64 q ∧ q ≤ z.labels.length ∧ n ≤ q ∧ Hid (n = (z.labels.take q).countP (fun s => s == fs)) ∧ Hid (W = wy)) (fun _ s19 _ => z.labels.length - (intOf s19).toNat)
                        case atStart => exact ⟨0, 0, rfl, rfl, Nat.zero_le _, Nat.le_refl _, Lib.hid (by first | rfl | trivial), Lib.hid (by first | rfl | trivial)⟩
                        case round =>
                          obtain ⟨n, q, rfl, rfl, hql, hnq, hn, hw⟩ := hrel
                          obtain rfl := hw.out
                          clear hw
                          by_cases hl3 : q < z.labels.length
                          · obtain ⟨s, b9, off9, hs, rfl, hb9, hr9⟩ := HL.out.at1 hl3
                            have c9 := hr9.1
                            cases hq : s == fs with
                            | true =>
                              have he : s = fs := eq_of_beq hq
                              obtain ⟨a, b10, off10, ha, rfl, hb10, hr10⟩ := HA.out.at1 (show q < z.args.length by omega)
                              have c10 := hr10.1
                              have hrun := run_dm HIW.out.map (Hargs.out q a (by rw [hs, he]) ha)
                              have Hn2 := Lib.hid (show n + 1 = (z.labels.take (q + 1)).countP (fun s => s == fs) by rw [tk_more hs, List.countP_append, ← hn.out]; simp [he])
                              clear hs ha hr9 hr10
                              subst he
                              go_wp2_with fail
                              go_roundw
                              case rel => exact ⟨n + 1, q + 1, by go_num, by go_num, by omega, by omega, Hn2, Lib.hid (by first | rfl | trivial)⟩
                              case measure => simp [intOf]; omega
                            | false =>
                              have hne : ¬ s = fs := fun e => by rw [e] at hq; simp at hq
                              have Hn2 := Lib.hid (show n = (z.labels.take (q + 1)).countP (fun s => s == fs) by rw [tk_more hs, List.countP_append, ← hn.out]; simp [hne])
                              clear hs hr9
                              go_wp2_with fail
                              go_roundw
                              case rel => exact ⟨n, q + 1, by go_num, by go_num, by omega, by omega, Hn2, Lib.hid (by first | rfl | trivial)⟩
                              case measure => simp [intOf]; omega
                          · have hq : q = z.labels.length := by omega
                            have hn1 : n = 1 := by have := hn.out; rw [hq, List.take_length, Hn1.out] at this; exact this
                            have hn2 : ((n : Int) != 1) = false := by rw [hn1]; rfl
                            have hbp := (HN.out.badPhi Hf.out Hy.out Hz.out h6).2
                            have HC2 := Lib.hid (CodeOk.phi m' Hz.out h6 hbp)
                            have Hlt2 := Lib.hid (show lt ++ [z.dst] = lateL y.code (j + 1) by rw [lateL_phi Hz.out h6, hlt.out])
                            have Ho := Lib.hid (HoW.out.alloc (.cells #[.string ⟨z.dst.toArray⟩] 9))
                            have c3 : (W.alloc (.cells #[.string ⟨z.dst.toArray⟩] 9)).cell? ⟨W.heap.size, 0, none⟩ = some (.string ⟨z.dst.toArray⟩) := (blk_facts (World.alloc_heap_new W _)).1 0
                            have hltl : lt.length ≤ 4096 := by have := lateL_len y.code j; rw [← hlt.out] at this; omega
                            have hne1 : wr.heap.size ≠ W.heap.size := by omega
                            clear hbp hn1 hn hq
                            go_wp2_with (refine wpList_push1 rfl _ _ 34 rfl wo.heap.size 9 _ 16 Tryz.underlying34 strInfo rfl _ _ lt.length rfl Ho.out W.heap.size (.string ⟨z.dst.toArray⟩) rfl rfl c3 (by unfold maxLen; omega) (by omega) (by simp; omega) ?_; intro G cap w2 ho3 hg3 hor)
                            go_roundw
                            case rel =>
                              have hsz3 := hg3.size
                              simp only [World.size_alloc] at hsz3
                              refine ⟨j + 1, some ⟨G, 0, none⟩, cap, lt ++ [z.dst], m', by simp, by go_num, by omega, Hlt2, Lib.hid (by simpa [encS] using ho3), hW', HC2, Lib.hid (by omega), Lib.hid ?_⟩
                              exact (HIW.out.grow (World.grownBy_alloc W _ none) (fun r e => by cases e)).grow hg3 (fun r e => by have := (Ho.out.lt r e).1; omega)
                            case measure => simp [intOf]; omega
                      | false =>
                        have h6 : z.op ≠ 6 := by simpa using q1
                        have q2 : ((z.op : Int) == 6) = false := by simp; omega
                        go_wp2_with fail
                        go_loopw [20] (fun s20 wy => ∃ (q : Nat) (mm : List (Str × Bool)), s20 = .int .i64 q ∧ q ≤ lt.length ∧ Hid ((∀ s, Dm m' s → Dm mm s) ∧ ∀ s ∈ lt.take q, Dm mm s) ∧ Hid (wy.ownsRow wo.heap.size 9 1 (.slice A8 lt.length c8) lt.length (lt.map encS)) ∧ Hid (wr.heap.size < wy.heap.size) ∧ Hid (wy.heap[wr.heap.size]? = some (.cells #[.int .u8 z.op, .string ⟨z.dst.toArray⟩, .string ⟨z.a.toArray⟩, .string ⟨z.b.toArray⟩, .int .i64 z.n, .string ⟨z.fn.toArray⟩, .slice A6 z.args.length d6, .slice A7 z.labels.length d7] 45 (0, 0))) ∧ Hid (WM w M FB f A1 d1 (some ⟨b1, off1, none⟩) d2 mm wy)) (fun s20 _ => lt.length - (intOf s20).toNat)
                        case atStart => exact ⟨0, m', rfl, Nat.zero_le _, Lib.hid (by exact ⟨fun _ h => h, fun s h => by simp at h⟩), HoW, Lib.hid hWs, Hbx, HIW⟩
                        case round =>
                          rename World => wy
                          obtain ⟨q, mm, rfl, hql, hm, ho, hsy, hbx, hI⟩ := hrel
                          clear HoW HIW Hbx i0
                          by_cases hl3 : q < lt.length
                          · obtain ⟨s, hs⟩ : ∃ s, lt[q]? = some s := ⟨_, List.getElem?_eq_getElem hl3⟩
                            obtain ⟨b9, rfl, hb9, hb9', c9⟩ := owns_atS ho.out hs
                            have hrun := run_mapSet (P := Tryz.prog) (keyS Tryz.underlying9) Tryz.underlying39 hI.out.map s true
                            simp only [encS] at hrun
                            have Hm := Lib.hid (show (∀ t, Dm m' t → Dm (aset mm s true) t) ∧ ∀ t ∈ lt.take (q + 1), Dm (aset mm s true) t from ⟨fun t ht => (hm.out.1 t ht).more, fun t ht => by
                              rw [tk_more hs] at ht
                              rcases List.mem_append.1 ht with ht | ht
                              · exact (hm.out.2 t ht).more
                              · rw [List.mem_singleton.1 ht]; exact Dm.new _ _⟩)
                            have hgr := (Turned.putObj wy M (mobj encS Value.bool (aset mm s true))).grownRow (World.grownBy.refl wy (some M))
                            have Ho := Lib.hid (ho.out.kept hgr (by
                              rcases owns_not ho.out hMs with h | h
                              · exact .inl h
                              · exact .inr h.symm))
                            have Hbx := Lib.hid ((hgr.block _ hsy.out (by intro e; injection e with e; exact hxn e.symm)).trans hbx.out)
                            have Hsy := Lib.hid (Nat.lt_of_lt_of_le hsy.out hgr.size)
                            have Hnext := Lib.hid (hI.out.put (m' := aset mm s true))
                            have hltl : lt.length ≤ 4096 := by have := lateL_len y.code j; rw [← hlt.out] at this; omega
                            clear hgr hs hm ho hsy hbx
                            go_wp2_with fail
                            go_roundw
                            case rel => exact ⟨q + 1, aset mm s true, by go_num, by omega, Hm, Ho, Hsy, Hbx, Hnext⟩
                            case measure => simp [intOf]; omega
                          · have hq : q = lt.length := by omega
                            have hall := hC.out.flush hm.out.1 (fun s hs => hm.out.2 s (by rw [hq, List.take_length, hlt.out]; exact hs))
                            have hWy := hW'.out.more hm.out.1
                            have HU := Lib.hid (hWy.uses HN.out HS.out Hf.out Hy.out Hz.out h6 hall)
                            have Hall := Lib.hid hall
                            have HWy := Lib.hid hWy
                            have i0 : wy.cell? ⟨wr.heap.size, 0, none⟩ = some (.int .u8 z.op) := (blk_facts hbx.out).1 0
                            have i1 : wy.cell? ⟨wr.heap.size, 1, none⟩ = some (.string ⟨z.dst.toArray⟩) := (blk_facts hbx.out).1 1
                            have i2 : wy.cell? ⟨wr.heap.size, 2, none⟩ = some (.string ⟨z.a.toArray⟩) := (blk_facts hbx.out).1 2
                            have i3 : wy.cell? ⟨wr.heap.size, 3, none⟩ = some (.string ⟨z.b.toArray⟩) := (blk_facts hbx.out).1 3
                            have i4 : wy.cell? ⟨wr.heap.size, 4, none⟩ = some (.int .i64 z.n) := (blk_facts hbx.out).1 4
                            have i5 : wy.cell? ⟨wr.heap.size, 5, none⟩ = some (.string ⟨z.fn.toArray⟩) := (blk_facts hbx.out).1 5
                            have i6 : wy.cell? ⟨wr.heap.size, 6, none⟩ = some (.slice A6 z.args.length d6) := (blk_facts hbx.out).1 6
                            have i7 : wy.cell? ⟨wr.heap.size, 7, none⟩ = some (.slice A7 z.labels.length d7) := (blk_facts hbx.out).1 7
                            have hcu := uses_any z _ _ wy B (Hzz.out.below hI.out.low hB) (by have := hI.out.low.size; omega)
                            have hsyx := hsy.out
                            clear hall hWy hq hW' hC
                            go_upto_region 39 with (first | (go_at_call 11; refine hcu.mono ?_; rintro e w7 ⟨v7, rfl, ho7, hb7⟩))
                            clear hcu i0 i1 i2 i3 i4 i5 i6 i7
                            obtain ⟨A9, c9, rfl, m9, m9', _, _⟩ := owns_slice ho7
                            have Ho7 := Lib.hid ho7
                            have Hg7 := Lib.hid (below_grown hb7)
                            have hsz7 := hb7.size
                            have HI7 := Lib.hid (hI.out.grow Hg7.out (fun r e => by cases e))
                            have Ho8 := Lib.hid (ho.out.kept Hg7.out (by cases (Value.slice A8 lt.length c8).ownBlock <;> simp))
                            have i1 : w7.cell? ⟨wr.heap.size, 1, none⟩ = some (.string ⟨z.dst.toArray⟩) := (blk_facts ((Hg7.out.block _ hsyx (by simp)).trans hbx.out)).1 1
                            clear ho7 hb7 hI ho hbx
                            go_wp2_with fail
                            go_loopw [22] (fun s22 wz => ∃ (q : Nat), s22 = .int .i64 q ∧ q ≤ (usesL z).length ∧ Hid (w7 = wz)) (fun s22 _ => (usesL z).length - (intOf s22).toNat)
                            case atStart => exact ⟨0, rfl, Nat.zero_le _, Lib.hid (by first | rfl | trivial)⟩
                            case round =>
                              obtain ⟨q5, rfl, hq5, hw⟩ := hrel
                              obtain rfl := hw.out
                              clear hw
                              by_cases hl4 : q5 < (usesL z).length
                              · obtain ⟨s, hs⟩ : ∃ s, (usesL z)[q5]? = some s := ⟨_, List.getElem?_eq_getElem hl4⟩
                                obtain ⟨b9, rfl, hb9, hb9', c9'⟩ := owns_atS Ho7.out hs
                                have hrun := run_dm HI7.out.map (HU.out s (List.mem_of_getElem? hs))
                                clear hs
                                go_wp2_with fail
                                go_roundw
                                case rel => exact ⟨q5 + 1, by go_num, by omega, Lib.hid (by first | rfl | trivial)⟩
                                case measure => simp [intOf]; omega
                              · have Hlt2 := Lib.hid (show lt = lateL y.code (j + 1) by rw [lateL_no Hz.out h6, hlt.out])
                                have hjl2 : (j : Int) < (y.code.length : Int) := Int.ofNat_lt.2 hl2
                                cases hd : z.dst == ([] : Str) with
                                | true =>
                                  have hd1 : z.dst = [] := eq_of_beq hd
                                  have HC2 := Lib.hid (CodeOk.step Hz.out h6 Hall.out (fun _ h => h) (fun e => absurd hd1 e))
                                  go_wp2_with fail
                                  go_roundw
                                  case rel => exact ⟨j + 1, A8, c8, lt, mm, rfl, by go_num, by omega, Hlt2, Ho8, HWy, HC2, Lib.hid (by omega), HI7⟩
                                  case measure => simp [intOf]; omega
                                | false =>
                                  have hrun := run_mapSet (P := Tryz.prog) (keyS Tryz.underlying9) Tryz.underlying39 HI7.out.map z.dst true
                                  simp only [encS] at hrun
                                  have HC2 := Lib.hid (CodeOk.step (m' := aset mm z.dst true) Hz.out h6 Hall.out (fun _ h => h.more) (fun _ => Dm.new _ _))
                                  have hgr := (Turned.putObj w7 M (mobj encS Value.bool (aset mm z.dst true))).grownRow (World.grownBy.refl w7 (some M))
                                  have Ho9 := Lib.hid (Ho8.out.kept hgr (by
                                    rcases owns_not Ho8.out hMs with h | h
                                    · exact .inl h
                                    · exact .inr h.symm))
                                  have Hnext := Lib.hid (HI7.out.put (m' := aset mm z.dst true))
                                  have HW9 := Lib.hid (HWy.out.more (m' := aset mm z.dst true) (fun _ h => h.more))
                                  have hgs := hgr.size
                                  clear hgr
                                  go_wp2_with fail
                                  go_roundw
                                  case rel => exact ⟨j + 1, A8, c8, lt, aset mm z.dst true, rfl, by go_num, by omega, Hlt2, Ho9, HW9, HC2, Lib.hid (by omega), Hnext⟩
                                  case measure => simp [intOf]; omega
                    · have hj : j = y.code.length := by omega
                      subst hj
                      obtain ⟨hcd, _⟩ := HN.out.ends Hf.out Hy.out
                      have hzl := lastIns_at hcd
                      obtain ⟨x, hx⟩ : ∃ x, x = lastIns y := ⟨_, rfl⟩
                      rw [← hx] at hzl
                      have Hx := Lib.hid hx
                      clear hx
                      have hl2' : y.code.length - 1 < y.code.length := by omega
                      obtain ⟨z, b3, off3, hz, rfl, hbB3, hr3⟩ := Hyy.out.code.at_ hl2'
                      rw [hzl] at hz
                      injection hz with hz
                      subst hz
                      obtain ⟨A6, d6, A7, d7, hzz, m6, m7, g0', g1, g2, g3, g4, g5, g6, g7⟩ := insR_open hr3
                      have hlow := hI'.out.low
                      have hlw := hlow.size
                      have hbn3 : b3 ≠ wr.heap.size := by omega
                      have hbl3 : b3 < wr.heap.size := by omega
                      replace g0' := cur hlow (by omega) g0'
                      replace g1 := cur hlow (by omega) g1
                      replace g2 := cur hlow (by omega) g2
                      replace g3 := cur hlow (by omega) g3
                      replace g4 := cur hlow (by omega) g4
                      replace g5 := cur hlow (by omega) g5
                      replace g6 := cur hlow (by omega) g6
                      replace g7 := cur hlow (by omega) g7
                      have Hzz := Lib.hid hzz
                      have hcs1 : ((y.code.length : Int) - 1) = ((y.code.length - 1 : Nat) : Int) := by omega
                      clear hr3 hzz hlow hlt ho hsz
                      go_upto_region 47 with (fail)
                      obtain ⟨W, hWd⟩ : ∃ W : World, W = wr.alloc (.cells #[.int .u8 x.op, .string ⟨x.dst.toArray⟩, .string ⟨x.a.toArray⟩, .string ⟨x.b.toArray⟩, .int .i64 x.n, .string ⟨x.fn.toArray⟩, .slice A6 x.args.length d6, .slice A7 x.labels.length d7] 45) := ⟨_, rfl⟩
                      have hWs : wr.heap.size < W.heap.size := by rw [hWd]; simp
                      have hgW : wr.grownBy W none := by rw [hWd]; exact World.grownBy_alloc _ _ _
                      have hbx : W.heap[wr.heap.size]? = some (.cells #[.int .u8 x.op, .string ⟨x.dst.toArray⟩, .string ⟨x.a.toArray⟩, .string ⟨x.b.toArray⟩, .int .i64 x.n, .string ⟨x.fn.toArray⟩, .slice A6 x.args.length d6, .slice A7 x.labels.length d7] 45 (0, 0)) := by rw [hWd]; exact World.alloc_heap_new wr _
                      have HIW := Lib.hid (hI'.out.grow hgW (fun r e => by cases e))
                      rw [← hWd]
                      clear hWd hgW g0' g1 g2 g3 g4 g5 g6 g7 hbn3 hbl3 hI' hcs1
                      have i7 : W.cell? ⟨wr.heap.size, 7, none⟩ = some (.slice A7 x.labels.length d7) := (blk_facts hbx).1 7
                      have HgE := Lib.hid (below_grown HIW.out.low)
                      clear hbx
                      by_cases hstop : x.labels.length = 0 ∨ i = cs.length
                      · have hstop2 : (decide ((x.labels.length : Int) = 0) || decide ((i : Int) = (cs.length : Int))) = true := by
                          rcases hstop with h | h
                          · simp [h]
                          · simp [h]
                        rcases hstop with h | h
                        · have h9 : ((x.labels.length : Int) == 0) = true := by rw [h]; rfl
                          clear hstop2 h
                          go_wp2_with (go_at_call 9; refine (hch _).mono ?_; rintro e w7 ⟨rfl, hg7⟩)
                          go_ret
                          exact ⟨rfl, grown_trans HgE.out hg7⟩
                        · subst h
                          clear hstop2
                          cases h9 : ((x.labels.length : Int) == 0) with
                          | true =>
                            go_wp2_with (go_at_call 9; refine (hch _).mono ?_; rintro e w7 ⟨rfl, hg7⟩)
                            go_ret
                            exact ⟨rfl, grown_trans HgE.out hg7⟩
                          | false =>
                            go_wp2_with (go_at_call 9; refine (hch _).mono ?_; rintro e w7 ⟨rfl, hg7⟩)
                            go_ret
                            exact ⟨rfl, grown_trans HgE.out hg7⟩
                      · have hl0 : x.labels.length ≠ 0 := fun e => hstop (.inl e)
                        have hi0 : i ≠ cs.length := fun e => hstop (.inr e)
                        have h9 : ((x.labels.length : Int) == 0) = false := beq_eq_false_iff_ne.2 (by omega)
                        have h8 : ((i : Int) == (cs.length : Int)) = false := beq_eq_false_iff_ne.2 (by omega)
                        clear hstop
                        have hil4 : i < cs.length := by omega
                        obtain ⟨cv, bC, offC, hcv, rfl, hbC, hrC⟩ := HC0.out.at1 hil4
                        obtain ⟨r, hr⟩ : ∃ r, r = cv % x.labels.length := ⟨_, rfl⟩
                        have hrl : r < x.labels.length := by rw [hr]; exact Nat.mod_lt _ (by omega)
                        have htm : (cv : Int).tmod (x.labels.length : Int) = (r : Int) := by rw [hr]; exact (Int.ofNat_tmod _ _).symm
                        have hrl2 : (r : Int) < (x.labels.length : Int) := Int.ofNat_lt.2 hrl
                        have hrl3 : (0 : Int) ≤ (r : Int) := Int.natCast_nonneg r
                        have hil5 : (i : Int) < (cs.length : Int) := Int.ofNat_lt.2 hil4
                        have hil6 : (0 : Int) ≤ (i : Int) := Int.natCast_nonneg i
                        have hwr : IntKind.i64.wrap (cv : Int) = (cv : Int) := by have := hrC.2; rw [IntKind.wrap_i64]; omega
                        have htm2 : cv % x.labels.length = r := hr.symm
                        have htm3 : (cv : Int) % (x.labels.length : Int) = (r : Int) := by rw [hr]; exact (Int.natCast_emod _ _).symm
                        obtain ⟨s, bL, offL, hs, rfl, hbL, hrL⟩ := Hzz.out.labels.at1 hrl
                        have hcv2 := hrC.2
                        obtain ⟨c, hci, hc0, hWn⟩ := Wlk.next HN.out HS.out Hf.out hW'.out Hy.out hC.out (Hx.out ▸ List.mem_of_getElem? hs)
                        obtain ⟨y', b1', off1', hy', hAe, hbB1', hr1⟩ := HBB.out.at_ hkl
                        injection hAe with hAe
                        injection hAe with hAe1 hAe2
                        subst hAe1; subst hAe2
                        rw [Hy.out] at hy'
                        injection hy' with hy'
                        subst hy'
                        obtain ⟨A5', d5', _, _, g1, _⟩ := blkR_open hr1
                        have hlow := HIW.out.low
                        replace g1 := cur hlow (by omega) g1
                        have z1 := cur hlow (by omega) hrC.1
                        have z2 := cur hlow (by omega) hrL.1
                        have j0 : W.cell? ⟨FB, 0, none⟩ = some (.string ⟨f.name.toArray⟩) := (blk_facts HIW.out.fb).1 0
                        have j1 : W.cell? ⟨FB, 1, none⟩ = some (.slice A1 f.params.length d1) := (blk_facts HIW.out.fb).1 1
                        have j2 : W.cell? ⟨FB, 2, none⟩ = some (.slice (some ⟨b1, off1, none⟩) f.blocks.length d2) := (blk_facts HIW.out.fb).1 2
                        have hblk : ∀ W' : World, W.grownBy W' none → Calls Tryz.prog 12 #[.agg #[.string ⟨f.name.toArray⟩, .slice A1 f.params.length d1, .slice (some ⟨b1, off1, none⟩) f.blocks.length d2], .string ⟨s.toArray⟩] W' fun e w' => e = .returned (.int .i64 c) ∧ W'.grownBy w' none := fun W' hg' => by
                          have hb' : Below w.heap.size w W' := hlow.trans ((grown_none hg').mono hlow.size)
                          have := block_any f _ _ B W' s (Nat.le_trans hB hb'.size) (Hfn.out.below hb' hB)
                          rwa [hci] at this
                        have HWn := Lib.hid hWn
                        have hc1 : ¬ (c : Int) ≤ 0 := by omega
                        have hbC3 : bC < W.heap.size := by have := hlow.size; omega
                        have hbL3 : bL < W.heap.size := by have := hlow.size; omega
                        have hFs3 : FB < W.heap.size := by omega
                        clear hr1 hs hr hrC hrL hWn hci hW' hC hcv
                        go_upto_region 49 with (fail)
                        go_cut [11] from 66 to 192 (fun s11 wx => s11 = .int .i64 c ∧ Hid (W.grownBy wx none))
                        case first =>
                          go_region_held3 (fun w' => W.grownBy w' none ∧ w'.cell? ⟨wr.heap.size, 7, none⟩ = some (.slice (some ⟨bL, offL, none⟩) x.labels.length d7) ∧ w'.cell? ⟨bC, offC + i, none⟩ = some (.int .u8 cv) ∧ w'.cell? ⟨bL, offL + r, none⟩ = some (.string ⟨s.toArray⟩) ∧ w'.cell? ⟨FB, 0, none⟩ = some (.string ⟨f.name.toArray⟩) ∧ w'.cell? ⟨FB, 1, none⟩ = some (.slice A1 f.params.length d1) ∧ w'.cell? ⟨FB, 2, none⟩ = some (.slice (some ⟨b1, off1, none⟩) f.blocks.length d2))
                            (first | exact ⟨World.grownBy.refl _ _, i7, z1, z2, j0, j1, j2⟩ | exact ⟨grown_drew' (World.grownBy.refl _ _), i7, z1, z2, j0, j1, j2⟩ | exact ⟨hq8, cur (grown_none hq8) hWs i7, cur (grown_none hq8) hbC3 z1, cur (grown_none hq8) hbL3 z2, cur (grown_none hq8) hFs3 j0, cur (grown_none hq8) hFs3 j1, cur (grown_none hq8) hFs3 j2⟩ | go_keep)
                            (first
                              | (go_at_call 12; refine (hblk _ (by first | exact World.grownBy.refl _ _ | exact grown_drew' (World.grownBy.refl _ _))).mono ?_; rintro e w8 ⟨rfl, hg8⟩; have hq8 : W.grownBy w8 none := grown_trans (by first | exact World.grownBy.refl _ _ | exact grown_drew' (World.grownBy.refl _ _)) hg8))
                          all_goals (go_wp2_with fail; go_meet)
                          all_goals exact ⟨rfl, hq8⟩
                        case rest =>
                          obtain ⟨rfl, hg8⟩ := hcut
                          clear z1 z2 i7 j0 j1 j2 hblk g1 hlow
                          have HI8 := Lib.hid (HIW.out.grow hg8.out (fun r e => by cases e))
                          clear hg8 HIW
                          go_wp2_with fail
                          go_roundw
                          case rel => exact ⟨i + 1, c, y.label, vs ++ [k], m', by go_num, rfl, rfl, by omega, HWn, HI8⟩
                          case measure => simp [intOf]; omega
        · have hq1 : ((r : Int) != 0) = true := by simp [h0]
          have hq2 : decide ((r : Int) ≤ (21 : Int)) = true := decide_eq_true (by omega)
          have hch := fun W => checks_any W
          go_wp2_with (go_at_call 9; refine (hch _).mono ?_; rintro e w7 ⟨rfl, hg7⟩)
          go_ret
          exact ⟨rfl, grown_trans (grown_trans Hg1.out Hg14.out) hg7⟩
end Go.Proofs.YtpemkbjbbcnddaaGreat

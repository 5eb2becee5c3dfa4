/- The contracts of gnomonlaw11.long and gnomonlaw11.heavy: they answer something. Condition: the program lies in memory. -/
import Derived.Test.YtpemkbjbbcnddaaGreatCSndChk
import Derived.Deep.DeepCutAuto
set_option linter.unusedVariables false
set_option linter.unusedSimpArgs false
set_option linter.unusedSectionVars false
namespace Go.Proofs.YtpemkbjbbcnddaaGreat
open Go.RowKit Go.Shelf

/-- An answer, yes or no. -/
def IsB (e : Ending) : Prop := ∃ b, e = .returned (.bool b)

def longB (l : List Str) : Bool := l.any fun s => decide (200 < s.length)
set_option maxHeartbeats 1000000 in
theorem long_any (v : Value) (l : List Str) (w : World) (B : Nat) (h : StrsAt w B v l) :
    Calls Tryz.prog 20 #[v] w fun e w' => e = .returned (.bool (longB l)) ∧ w = w' := by
  obtain ⟨A, c, rfl, hm, hlc, hcm, hA⟩ := h.open_
  clear h
  go_enter Tryz.func20, Tryz.ntmps20
  go_wp2
  go_loop [3] (fun s3 => ∃ k : Nat, k ≤ l.length ∧ s3 = .int .i64 k ∧ Hid (∀ j, j < k → ∀ y, l[j]? = some y → decide (200 < y.length) = false)) (fun s3 => l.length - (intOf s3).toNat)
  case atStart => exact ⟨0, Nat.zero_le _, rfl, below_zero⟩
  case round =>
    obtain ⟨k, hkl, rfl, hP⟩ := hrel
    by_cases hlt : k < l.length
    · obtain ⟨x, b, off, hx, rfl, hbB, hc, hsl⟩ := hA.at1 hlt
      have Hx := Lib.hid hx
      clear hx hA
      by_cases hq : 200 < x.length
      · have hq2 : (200 : Int) < (x.length : Int) := by omega
        have HL := Lib.hid (show longB l = true from List.any_eq_true.2 ⟨x, List.mem_of_getElem? Hx.out, by simp [hq]⟩)
        go_wp2
        go_ret
        exact ⟨by rw [HL.out]; rfl, rfl⟩
      · have hq2 : ¬ (200 : Int) < (x.length : Int) := by omega
        go_wp2
        go_round
        case rel => exact ⟨k + 1, by omega, by go_num, below_succ Hx.out hP.out (by simp [hq])⟩
        case measure => simp [intOf]; omega
    · have HL := Lib.hid (show longB l = false by
        unfold longB
        rw [List.any_eq_false]
        intro x hx
        obtain ⟨j, hj, e⟩ := List.mem_iff_getElem.1 hx
        have := hP.out j (by omega) x (by rw [List.getElem?_eq_getElem hj, e])
        simpa using this)
      go_wp2
      go_ret
      exact ⟨by rw [HL.out]; rfl, rfl⟩

set_option maxRecDepth 100000 in
set_option maxHeartbeats 12000000 in
theorem heavy_any (p : GProg) (vp : Value) (B : Nat) (w : World) (hB : B ≤ w.heap.size) (h : ProgAt w B vp p) :
    Calls Tryz.prog 7 #[.agg #[vp]] w fun e w' => IsB e ∧ w.grownBy w' none := by
  have hP := h
  obtain ⟨A, c, rfl, hm, hlc, hcm, hA⟩ := h.open_
  obtain ⟨w1, hw1⟩ : ∃ w1 : World, w1 = w.alloc (.cells #[.slice A p.length c] 24) := ⟨_, rfl⟩
  have hs1 : w1.heap.size = w.heap.size + 1 := by rw [hw1]; simp
  have hg1 : w.grownBy w1 none := by rw [hw1]; exact World.grownBy_alloc w _ none
  have hp1 : w1.heap[w.heap.size]? = some (.cells #[.slice A p.length c] 24 (0, 0)) := by rw [hw1]; exact World.alloc_heap_new w _
  obtain ⟨y1, _⟩ := blk_facts hp1
  have HP := Lib.hid hP
  have Hp1 := Lib.hid hp1
  have Hg1 := Lib.hid hg1
  have c1 : w1.cell? ⟨w.heap.size, 0, none⟩ = some (.slice A p.length c) := y1 0
  clear h hA hP hp1 hg1 y1
  go_enter Tryz.func7, Tryz.ntmps7
  go_upto_region 1 with (fail)
  rw [← hw1]
  clear hw1
  by_cases h20 : 20 < p.length
  · have h20' : (20 : Int) < (p.length : Int) := by omega
    go_wp2
    go_ret
    exact ⟨⟨_, rfl⟩, Hg1.out⟩
  · have h20' : ¬ (20 : Int) < (p.length : Int) := by omega
    go_wp2_with fail
    clear c1
    go_loopw [4, 3] (fun s4 s3 wr => ∃ (i n : Nat), i ≤ p.length ∧ n ≤ 150 ∧ s4 = .int .i64 i ∧ s3 = .int .i64 n ∧ Hid (w1.grownBy wr none)) (fun s4 _ _ => p.length - (intOf s4).toNat)
    case atStart => exact ⟨0, 0, Nat.zero_le _, by omega, rfl, rfl, World.grownBy.refl _ _⟩
    case round =>
      obtain ⟨i, n, hil, hn, rfl, rfl, hI⟩ := hrel
      have hlow := grown_trans Hg1.out hI.out
      have hszr := hlow.size
      have c1 : wr.cell? ⟨w.heap.size, 0, none⟩ = some (.slice A p.length c) := (blk_facts ((hI.out.block _ (by omega) (by simp)).trans Hp1.out)).1 0
      by_cases hli : i < p.length
      · have hPr := HP.out.below funR.keeps (grown_none hlow) hB
        obtain ⟨f, bF, offF, hf, hAe, hbF, hrF⟩ := SlAt.at_ hPr hli
        subst hAe
        obtain ⟨A1, d1, A2, d2, hfn, m1, m2, e0, e1, e2⟩ := funR_open hrF
        obtain ⟨wF, hwF⟩ : ∃ wF : World, wF = wr.alloc (.cells #[.string ⟨f.name.toArray⟩, .slice A1 f.params.length d1, .slice A2 f.blocks.length d2] 37) := ⟨_, rfl⟩
        have hgF : wr.grownBy wF none := by rw [hwF]; exact World.grownBy_alloc _ _ _
        have hsF : wF.heap.size = wr.heap.size + 1 := by rw [hwF]; simp
        have hbx : wF.heap[wr.heap.size]? = some (.cells #[.string ⟨f.name.toArray⟩, .slice A1 f.params.length d1, .slice A2 f.blocks.length d2] 37 (0, 0)) := by rw [hwF]; exact World.alloc_heap_new _ _
        obtain ⟨u1, _⟩ := blk_facts hbx
        have v0 : wF.cell? ⟨wr.heap.size, 0, none⟩ = some (.string ⟨f.name.toArray⟩) := u1 0
        have v1 : wF.cell? ⟨wr.heap.size, 1, none⟩ = some (.slice A1 f.params.length d1) := u1 1
        have v2 : wF.cell? ⟨wr.heap.size, 2, none⟩ = some (.slice A2 f.blocks.length d2) := u1 2
        have hfnW := hfn.below (grown_none hgF) (show B ≤ wr.heap.size by omega)
        have hlong := long_any _ _ wF B hfnW.params
        have Hfn := Lib.hid hfnW
        have Hbx := Lib.hid hbx
        have HgF := Lib.hid (grown_trans hI.out hgF)
        have hbFl : bF < wr.heap.size := by omega
        clear hPr hrF hf hfn hfnW hgF hbx u1 hlow hI
        go_upto_region 8 with (fail)
        rw [← hwF]
        clear hwF e0 e1 e2 c1 hm hlc hcm
        go_cut [46] (fun s46 wx => (∃ b, s46 = .bool b) ∧ wF = wx)
        case first =>
          by_cases t0 : 200 < f.name.length
          · have t0' : (200 : Int) < (f.name.length : Int) := by omega
            go_wp2_with fail
            go_meet
            exact ⟨⟨_, rfl⟩, rfl⟩
          · have t0' : ¬ (200 : Int) < (f.name.length : Int) := by omega
            by_cases t1 : 20 < f.params.length
            · have t1' : (20 : Int) < (f.params.length : Int) := by omega
              go_wp2_with fail
              go_meet
              exact ⟨⟨_, rfl⟩, rfl⟩
            · have t1' : ¬ (20 : Int) < (f.params.length : Int) := by omega
              by_cases t2 : 30 < f.blocks.length
              · have t2' : (30 : Int) < (f.blocks.length : Int) := by omega
                go_wp2_with fail
                go_meet
                exact ⟨⟨_, rfl⟩, rfl⟩
              · have t2' : ¬ (30 : Int) < (f.blocks.length : Int) := by omega
                go_wp2_with (go_at_call 20; refine hlong.mono ?_; rintro e w' ⟨rfl, rfl⟩)
                go_meet
                exact ⟨⟨_, rfl⟩, rfl⟩
        case rest =>
          obtain ⟨⟨b46, rfl⟩, rfl⟩ := hcut
          clear hlong
          cases b46 with
          | true =>
            go_wp2
            go_ret
            exact ⟨⟨_, rfl⟩, grown_trans Hg1.out HgF.out⟩
          | false =>
            go_wp2_with fail
            clear v0 v1 v2
            have hBw : B ≤ wF.heap.size := by omega
            obtain ⟨N0, hN0⟩ : ∃ N0 : Nat, N0 = wr.heap.size := ⟨_, rfl⟩
            rw [← hN0] at Hbx hsF hbFl ⊢
            clear hN0
            have hBl := Hfn.out.blocks
            obtain ⟨A2', d2', hAe2, _, _, _, hBl⟩ := hBl.open_
            simp only [Value.slice.injEq] at hAe2
            obtain ⟨rfl, _, rfl⟩ := hAe2
            have HBl := Lib.hid hBl
            clear hBl
            go_loopw [6, 3] (fun s6 s3 wx => ∃ (j n : Nat), j ≤ f.blocks.length ∧ n ≤ 150 ∧ s6 = .int .i64 j ∧ s3 = .int .i64 n ∧ Hid (wF.grownBy wx none)) (fun s6 _ _ => f.blocks.length - (intOf s6).toNat)
            case atStart => exact ⟨0, n, Nat.zero_le _, hn, rfl, rfl, World.grownBy.refl _ _⟩
            case round =>
              obtain ⟨j, n2, hjl, hn2, rfl, rfl, hJ⟩ := hrel
              have hszJ := hJ.out.size
              have c2 : wr.cell? ⟨N0, 2, none⟩ = some (.slice A2 f.blocks.length d2) := (blk_facts ((hJ.out.block _ (by omega) (by simp)).trans Hbx.out)).1 2
              by_cases hlj : j < f.blocks.length
              · obtain ⟨y, b1, off1, hy, hA2e, hbB1, hr1⟩ := HBl.out.at_ hlj
                subst hA2e
                obtain ⟨A5, d5, hyy, m5, g0, g1⟩ := blkR_open hr1
                have hlowJ := grown_none hJ.out
                replace g0 := cur hlowJ (by omega) g0
                replace g1 := cur hlowJ (by omega) g1
                have Hyy := Lib.hid (hyy.below hlowJ (show B ≤ wF.heap.size by omega))
                clear hr1 hyy hlowJ hy
                go_upto_region 14 with (fail)
                go_cut [74] (fun s74 wx => (∃ b, s74 = .bool b ∧ (b = false → n2 + y.code.length ≤ 150)) ∧ wr = wx)
                case first =>
                  by_cases t0 : 150 - (n2 : Int) < (y.code.length : Int)
                  · go_wp2_with fail
                    go_meet
                    exact ⟨⟨_, rfl, fun e => by cases e⟩, rfl⟩
                  · by_cases t1 : 200 < y.label.length
                    · have t1' : (200 : Int) < (y.label.length : Int) := by omega
                      go_wp2_with fail
                      go_meet
                      exact ⟨⟨_, rfl, fun e => by cases e⟩, rfl⟩
                    · have t1' : ¬ (200 : Int) < (y.label.length : Int) := by omega
                      go_wp2_with fail
                      go_meet
                      exact ⟨⟨_, rfl, fun _ => by omega⟩, rfl⟩
                case rest =>
                  obtain ⟨⟨b74, rfl, hb74⟩, rfl⟩ := hcut
                  clear c2 g0 g1
                  cases b74 with
                  | true =>
                    clear hb74
                    go_wp2
                    go_ret
                    exact ⟨⟨_, rfl⟩, grown_trans (grown_trans Hg1.out HgF.out) hJ.out⟩
                  | false =>
                    have hn3 := hb74 rfl
                    clear hb74
                    obtain ⟨wx0, hwx0⟩ : ∃ wx0 : World, wx0 = wr := ⟨_, rfl⟩
                    rw [← hwx0] at Hyy hJ hszJ
                    have Hwx0 := Lib.hid hwx0
                    clear hwx0
                    have hbl1 : b1 < wx0.heap.size := by omega
                    go_wp2_with fail
                    go_loopw [8] (fun s8 wx => ∃ k : Nat, k ≤ y.code.length ∧ s8 = .int .i64 k ∧ Hid (wx0.grownBy wx none)) (fun s8 _ => y.code.length - (intOf s8).toNat)
                    case atStart => exact ⟨0, Nat.zero_le _, rfl, Lib.hid (by rw [Hwx0.out]; exact World.grownBy.refl _ _)⟩
                    case round =>
                      obtain ⟨k, hkl, rfl, hK⟩ := hrel
                      have hszK := hK.out.size
                      by_cases hlk : k < y.code.length
                      · obtain ⟨z, b3, off3, hz, hA5e, hbB3, hr3⟩ := Hyy.out.code.at_ hlk
                        subst hA5e
                        obtain ⟨A6, d6, A7, d7, hzz, m6, m7, g0, g1, g2, g3, g4, g5, g6, g7⟩ := insR_open hr3
                        have hlowK := grown_none hK.out
                        replace g0 := cur hlowK (by omega) g0
                        replace g1 := cur hlowK (by omega) g1
                        replace g2 := cur hlowK (by omega) g2
                        replace g3 := cur hlowK (by omega) g3
                        replace g4 := cur hlowK (by omega) g4
                        replace g5 := cur hlowK (by omega) g5
                        replace g6 := cur hlowK (by omega) g6
                        replace g7 := cur hlowK (by omega) g7
                        obtain ⟨wZ, hwZ⟩ : ∃ wZ : World, wZ = wr.alloc (.cells #[.int .u8 z.op, .string ⟨z.dst.toArray⟩, .string ⟨z.a.toArray⟩, .string ⟨z.b.toArray⟩, .int .i64 z.n, .string ⟨z.fn.toArray⟩, .slice A6 z.args.length d6, .slice A7 z.labels.length d7] 45) := ⟨_, rfl⟩
                        have hgZ : wr.grownBy wZ none := by rw [hwZ]; exact World.grownBy_alloc _ _ _
                        have hsZ : wZ.heap.size = wr.heap.size + 1 := by rw [hwZ]; simp
                        have hzx : wZ.heap[wr.heap.size]? = some (.cells #[.int .u8 z.op, .string ⟨z.dst.toArray⟩, .string ⟨z.a.toArray⟩, .string ⟨z.b.toArray⟩, .int .i64 z.n, .string ⟨z.fn.toArray⟩, .slice A6 z.args.length d6, .slice A7 z.labels.length d7] 45 (0, 0)) := by rw [hwZ]; exact World.alloc_heap_new _ _
                        obtain ⟨q, _⟩ := blk_facts hzx
                        have q1 : wZ.cell? ⟨wr.heap.size, 1, none⟩ = some (.string ⟨z.dst.toArray⟩) := q 1
                        have q2 : wZ.cell? ⟨wr.heap.size, 2, none⟩ = some (.string ⟨z.a.toArray⟩) := q 2
                        have q3 : wZ.cell? ⟨wr.heap.size, 3, none⟩ = some (.string ⟨z.b.toArray⟩) := q 3
                        have q5 : wZ.cell? ⟨wr.heap.size, 5, none⟩ = some (.string ⟨z.fn.toArray⟩) := q 5
                        have q6 : wZ.cell? ⟨wr.heap.size, 6, none⟩ = some (.slice A6 z.args.length d6) := q 6
                        have q7 : wZ.cell? ⟨wr.heap.size, 7, none⟩ = some (.slice A7 z.labels.length d7) := q 7
                        have hzW := hzz.below (hlowK.trans ((grown_none hgZ).mono hszK)) (show B ≤ wx0.heap.size by omega)
                        have hlo1 := long_any _ _ wZ B hzW.args
                        have hlo2 := long_any _ _ wZ B hzW.labels
                        have HgZ := Lib.hid (grown_trans hK.out hgZ)
                        clear hr3 hzz hzW hz hlowK hgZ hzx q
                        go_upto_region 21 with (fail)
                        rw [← hwZ]
                        clear hwZ g0 g1 g2 g3 g4 g5 g6 g7
                        go_cut [132] (fun s132 wx => (∃ b, s132 = .bool b) ∧ wZ = wx)
                        case first =>
                          by_cases t0 : 200 < z.dst.length
                          · have t0' : (200 : Int) < (z.dst.length : Int) := by omega
                            clear hlo1 hlo2
                            go_wp2_with fail
                            go_meet
                            exact ⟨⟨_, rfl⟩, rfl⟩
                          · have t0' : ¬ (200 : Int) < (z.dst.length : Int) := by omega
                            by_cases t1 : 200 < z.a.length
                            · have t1' : (200 : Int) < (z.a.length : Int) := by omega
                              clear hlo1 hlo2
                              go_wp2_with fail
                              go_meet
                              exact ⟨⟨_, rfl⟩, rfl⟩
                            · have t1' : ¬ (200 : Int) < (z.a.length : Int) := by omega
                              by_cases t2 : 200 < z.b.length
                              · have t2' : (200 : Int) < (z.b.length : Int) := by omega
                                clear hlo1 hlo2
                                go_wp2_with fail
                                go_meet
                                exact ⟨⟨_, rfl⟩, rfl⟩
                              · have t2' : ¬ (200 : Int) < (z.b.length : Int) := by omega
                                by_cases t3 : 200 < z.fn.length
                                · have t3' : (200 : Int) < (z.fn.length : Int) := by omega
                                  clear hlo1 hlo2
                                  go_wp2_with fail
                                  go_meet
                                  exact ⟨⟨_, rfl⟩, rfl⟩
                                · have t3' : ¬ (200 : Int) < (z.fn.length : Int) := by omega
                                  by_cases t4 : 20 < z.args.length
                                  · have t4' : (20 : Int) < (z.args.length : Int) := by omega
                                    clear hlo1 hlo2
                                    go_wp2_with fail
                                    go_meet
                                    exact ⟨⟨_, rfl⟩, rfl⟩
                                  · have t4' : ¬ (20 : Int) < (z.args.length : Int) := by omega
                                    by_cases t5 : 20 < z.labels.length
                                    · have t5' : (20 : Int) < (z.labels.length : Int) := by omega
                                      clear hlo1 hlo2
                                      go_wp2_with fail
                                      go_meet
                                      exact ⟨⟨_, rfl⟩, rfl⟩
                                    · have t5' : ¬ (20 : Int) < (z.labels.length : Int) := by omega
                                      cases hl1 : longB z.args with
                                      | true =>
                                        rw [hl1] at hlo1
                                        clear hlo2
                                        go_wp2_with (go_at_call 20; refine hlo1.mono ?_; rintro e w' ⟨rfl, rfl⟩)
                                        go_meet
                                        exact ⟨⟨_, rfl⟩, rfl⟩
                                      | false =>
                                        rw [hl1] at hlo1
                                        go_wp2_with (go_at_call 20; first | (refine hlo1.mono ?_; clear hlo1; rintro e w' ⟨rfl, rfl⟩) | (refine hlo2.mono ?_; rintro e w' ⟨rfl, rfl⟩))
                                        go_meet
                                        exact ⟨⟨_, rfl⟩, rfl⟩
                        case rest =>
                          obtain ⟨⟨b132, rfl⟩, rfl⟩ := hcut
                          clear hlo1 hlo2 q1 q2 q3 q5 q6 q7
                          cases b132 with
                          | true =>
                            go_wp2
                            go_ret
                            exact ⟨⟨_, rfl⟩, grown_trans (grown_trans (grown_trans Hg1.out HgF.out) hJ.out) HgZ.out⟩
                          | false =>
                            go_wp2
                            go_roundw
                            case rel => exact ⟨k + 1, by omega, by go_num, HgZ⟩
                            case measure => simp [intOf]; omega
                      · go_wp2
                        go_roundw
                        case rel => exact ⟨j + 1, n2 + y.code.length, by omega, hn3, by go_num, by go_num, grown_trans hJ.out hK.out⟩
                        case measure => simp [intOf]; omega
              · go_wp2
                go_roundw
                case rel => exact ⟨i + 1, n2, by omega, hn2, by go_num, rfl, grown_trans HgF.out hJ.out⟩
                case measure => simp [intOf]; omega
      · go_wp2
        go_ret
        exact ⟨⟨_, rfl⟩, hlow⟩
end Go.Proofs.YtpemkbjbbcnddaaGreat

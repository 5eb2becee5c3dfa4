/- gnomonlaw11.SoundChain answers true: the walk. Condition: the arguments are bytes. -/
import Derived.Test.YtpemkbjbbcnddaaGreatCLwNm
import Derived.Deep.DeepCutAuto
import Derived.Deep.RegionHeld3
import Derived.BigQuiet
import Derived.Deep.DeepMust
import Derived.OwnWalk
set_option linter.unusedVariables false
set_option linter.unusedSimpArgs false
set_option linter.unusedSectionVars false
namespace Go.Proofs.YtpemkbjbbcnddaaGreat
open Go.RowKit Go.Shelf

set_option maxRecDepth 100000 in
set_option maxHeartbeats 20000000 in
theorem chain_any (n df us fr sk : Nat) (w : World) (h1 : n < 256) (h2 : df < 256) (h3 : us < 256) (h4 : fr < 256) (h5 : sk < 256) :
    Calls Tryz.prog 5 #[.int .u8 n, .int .u8 df, .int .u8 us, .int .u8 fr, .int .u8 sk] w fun e w' => e = .returned (.bool true) ∧ w.grownBy w' none := by
  obtain ⟨k, hk⟩ : ∃ k, k = 3 + n % 18 := ⟨_, rfl⟩
  obtain ⟨d, hd⟩ : ∃ d, d = df % k := ⟨_, rfl⟩
  obtain ⟨u, hu⟩ : ∃ u, u = us % k := ⟨_, rfl⟩
  obtain ⟨a, ha⟩ : ∃ a, a = fr % (k - 1) := ⟨_, rfl⟩
  obtain ⟨t, ht⟩ : ∃ t, t = a + 1 + sk % (k - 1 - a) := ⟨_, rfl⟩
  have hk1 : 3 ≤ k ∧ k ≤ 20 := by omega
  have hdl : d < k := by rw [hd]; exact Nat.mod_lt _ (by omega)
  have hul : u < k := by rw [hu]; exact Nat.mod_lt _ (by omega)
  have hal : a < k - 1 := by rw [ha]; exact Nat.mod_lt _ (by omega)
  have htl : t < k := by rw [ht]; have := Nat.mod_lt sk (show 0 < k - 1 - a by omega); omega
  have HC := Lib.hid (show ChOk k d u a t from ⟨hk1.1, hk1.2, hdl, hul, by omega, by omega, htl⟩)
  have e1 : (3 + (n : Int) % 18) = (k : Int) := by rw [hk]; omega
  have e2 : (df : Int) % (k : Int) = (d : Int) := by rw [hd]; exact (Int.natCast_emod _ _).symm
  have e3 : (us : Int) % (k : Int) = (u : Int) := by rw [hu]; exact (Int.natCast_emod _ _).symm
  have e4 : (fr : Int) % ((k : Int) - 1) = (a : Int) := by
    rw [ha, show (k : Int) - 1 = ((k - 1 : Nat) : Int) by omega]; exact (Int.natCast_emod _ _).symm
  have e5 : (a : Int) + 1 + (sk : Int) % ((k : Int) - 1 - (a : Int)) = (t : Int) := by
    rw [ht, show (k : Int) - 1 - (a : Int) = ((k - 1 - a : Nat) : Int) by omega]
    have := (Int.natCast_emod sk (k - 1 - a)).symm
    omega
  have k0 : ((k : Int) == 0) = false := beq_eq_false_iff_ne.2 (by omega)
  have k0' : ¬ (k : Int) = 0 := by omega
  have k1 : ((k : Int) - 1 == 0) = false := beq_eq_false_iff_ne.2 (by omega)
  have k1' : ¬ (k : Int) - 1 = 0 := by omega
  have k2 : ((k : Int) - 1 - (a : Int) == 0) = false := beq_eq_false_iff_ne.2 (by omega)
  have k2' : ¬ (k : Int) - 1 - (a : Int) = 0 := by omega
  clear hk hd hu ha ht
  go_enter Tryz.func5, Tryz.ntmps5
  go_upto_region 2 with (fail)
  go_quiet (fail)
  obtain ⟨w1, hw1⟩ : ∃ w1 : World, w1 = w.drewN nq := ⟨_, rfl⟩
  have hg1 : w.grownBy w1 none := by rw [hw1]; exact grown_drewN (World.grownBy.refl _ _) _
  rw [← hw1]
  clear hw1
  go_upto_region 7 with (fail)
  obtain ⟨w2, hw2⟩ : ∃ w2 : World, w2 = w1.alloc (.cells #[.string ⟨#[109, 97, 105, 110]⟩, .slice none 0 0, .slice none 0 0] 37) := ⟨_, rfl⟩
  obtain ⟨FB, hFB⟩ : ∃ FB : Nat, FB = w1.heap.size := ⟨_, rfl⟩
  have hfb : w2.heap[FB]? = some (.cells #[.string ⟨#[109, 97, 105, 110]⟩, .slice none 0 0, .slice none 0 0] 37 (0, 0)) := by rw [hw2, hFB]; exact World.alloc_heap_new _ _
  have HI := Lib.hid (show ChI w FB k d u a t 0 (.slice none 0 0) [] w2 from ⟨by rw [hw2]; exact grown_alloc hg1 _, hfb, by have := hg1.size; omega, World.ownsRow_nil _ _ _ _, fun j hj => by omega⟩)
  rw [← hw2, ← hFB]
  have hch := fun W => checks_any W
  simp only [e2, e3, e4]
  clear hw2 hfb hFB hg1 e2 e3 e4 e5 k0 k0' k1 k1' k2 k2'
  go_loopw [17] (fun s17 wr => ∃ (i : Nat) (vb : Value) (xs : List Value), s17 = .int .i64 i ∧ i ≤ k ∧ Hid (ChI w FB k d u a t i vb xs wr)) (fun s17 _ => k - (intOf s17).toNat)
  case atStart => exact ⟨0, _, _, rfl, Nat.zero_le _, HI⟩
  case round =>
    obtain ⟨i, vb, xs, rfl, hik, hI⟩ := hrel
    clear HI
    by_cases hl : i < k
    · have hnm := fun W => name_any i (by omega) W
      go_upto_region 10 with (first | (go_at_call 15; refine (hnm _).mono ?_; rintro e w9 ⟨rfl, hg9⟩))
      obtain ⟨BB, hBB⟩ : ∃ BB : Nat, BB = w9.heap.size := ⟨_, rfl⟩
      obtain ⟨w10, hw10⟩ : ∃ w10 : World, w10 = w9.alloc (.cells #[.string ⟨(nmB i).toArray⟩, .slice none 0 0] 42) := ⟨_, rfl⟩
      have hbb : w10.heap[BB]? = some (.cells #[.string ⟨(nmB i).toArray⟩, .slice none 0 0] 42 (0, 0)) := by rw [hw10, hBB]; exact World.alloc_heap_new _ _
      have Hg10 := Lib.hid (show wr.grownBy w10 none by rw [hw10]; exact grown_alloc hg9 _)
      have hBl : wr.heap.size ≤ BB := by rw [hBB]; exact hg9.size
      have hBs := seen_lt hbb
      rw [← hw10, ← hBB]
      clear hw10 hBB hg9 hnm
      have c1 : w10.cell? ⟨BB, 1, none⟩ = some (.slice none 0 0) := (blk_facts hbb).1 1
      have Hbb := Lib.hid hbb
      clear hbb
      go_upto_if 60 with (fail)
      go_cut [18] (fun s18 wx => ∃ (vc : Value), s18 = .pointer (some ⟨BB, 0, none⟩) ∧ Hid (wr.grownBy wx none) ∧ Hid (wx.heap[BB]? = some (.cells #[.string ⟨(nmB i).toArray⟩, vc] 42 (0, 0))) ∧ Hid (wx.ownsRow (BB + 1) 45 8 vc (cPre1 d i).length ((cPre1 d i).flatMap fun x => encI x (.slice none 0 0))))
      case first =>
        by_cases hd : i = d
        · subst hd
          go_wp2_with ((at_builtin; go_must (refine wpList_pushN rfl (.tmp 62) (.tmp 64) 40 rfl (BB + 1) 45 _ 8 128 Tryz.underlying40 insInfo rfl (by decide) (.slice none 0 0) [] 0 rfl (World.ownsRow_nil _ _ _ _) w10.heap.size (encI cNull (.slice none 0 0)) rfl (by simp [encI, Value.oneCell']) rfl _ _ (World.alloc_heap_new w10 _) rfl (by unfold maxLen; omega) (by omega) (by simp; omega) ?_; intro G cap w11 ho hg hor;
                                                                                          have hbb11 := (hg.block BB (by simp; omega) (by simp [Value.ownBlock])).trans ((Below.heap_alloc w10 _ BB (by omega)).trans Hbb.out);
                                                                                          have x1 : w11.cell? ⟨BB, 1, none⟩ = some (.slice none 0 0) := (blk_facts hbb11).1 1; have x2 : w11.frozen? ⟨BB, 1, none⟩ = false := (blk_facts hbb11).2 1;
                                                                                          have Hbb11 := Lib.hid hbb11; have Ho := Lib.hid ho; have Hg := Lib.hid hg; clear hbb11 ho hg)))
          go_meet
          have hgs : w11.grownBy (w11.setCell ⟨BB, 1, none⟩ (.slice (some ⟨G, 0, none⟩) 1 cap)) (some BB) := grown_setRow (World.grownBy.refl _ _) rfl _
          refine ⟨_, rfl, Lib.hid (grown_set (grown_trans (grown_alloc Hg10.out _) Hg.out) hBl _), Lib.hid (set_blk Hbb11.out 1 _), Lib.hid ?_⟩
          have e : cPre1 i i = [cNull] := by simp [cPre1]
          rw [e]
          exact Ho.out.kept hgs (.inr (by have := (owns_cells Ho.out).1; intro e; injection e with e; simp only at e; omega))
        · have hd2 : ((i : Int) == (d : Int)) = false := beq_eq_false_iff_ne.2 (by omega)
          go_wp2_with fail
          go_meet
          have e : cPre1 d i = [] := by simp [cPre1, hd]
          exact ⟨_, rfl, Hg10, Hbb, Lib.hid (by rw [e]; exact World.ownsRow_nil _ _ _ _)⟩
      case rest =>
        obtain ⟨vc, rfl, hgA, hbA, hoA⟩ := hcut
        clear Hg10 Hbb c1
        obtain ⟨A, c, rfl, _, _, _, _⟩ := owns_slice' hoA.out
        have c1 : wc.cell? ⟨BB, 1, none⟩ = some (.slice A (cPre1 d i).length c) := (blk_facts hbA.out).1 1
        have hBc := seen_lt hbA.out
        have hp1 : (cPre1 d i).length ≤ 1 := by unfold cPre1; split <;> simp
        have hne1 : some BB ≠ (Value.slice A (cPre1 d i).length c).ownBlock := fun e => by have := (hoA.out.lt BB e.symm).1; omega
        rename World => wA
        go_upto_if 69 with (fail)
        go_cut [18] (fun s18 wx => ∃ (vc : Value), s18 = .pointer (some ⟨BB, 0, none⟩) ∧ Hid (wr.grownBy wx none) ∧ Hid (wx.heap[BB]? = some (.cells #[.string ⟨(nmB i).toArray⟩, vc] 42 (0, 0))) ∧ Hid (wx.ownsRow (BB + 1) 45 8 vc (cPre d u i).length ((cPre d u i).flatMap fun x => encI x (.slice none 0 0))))
        case first =>
          by_cases hd : i = u
          · subst hd
            go_wp2_with ((at_builtin; go_must (refine wpList_pushN rfl (.tmp 71) (.tmp 73) 40 rfl (BB + 1) 45 _ 8 128 Tryz.underlying40 insInfo rfl (by decide) (.slice A (cPre1 d i).length c) _ _ rfl (hoA.out.alloc _) wA.heap.size (encI cCopy (.slice none 0 0)) rfl (by simp [encI, Value.oneCell']) rfl _ _ (World.alloc_heap_new wA _) rfl (by unfold maxLen; omega) (by omega) (by simp; omega) ?_; intro G cap w11 ho hg hor;
                                                                                          have hbb11 := (hg.block BB (by simp; omega) hne1).trans ((Below.heap_alloc wA _ BB (by omega)).trans hbA.out);
                                                                                          have x1 : w11.cell? ⟨BB, 1, none⟩ = some (.slice A (cPre1 d i).length c) := (blk_facts hbb11).1 1; have x2 : w11.frozen? ⟨BB, 1, none⟩ = false := (blk_facts hbb11).2 1;
                                                                                          have Hbb11 := Lib.hid hbb11; have Ho := Lib.hid ho; have Hg := Lib.hid hg; clear hbb11 ho hg)))
            go_meet
            have hgs : w11.grownBy (w11.setCell ⟨BB, 1, none⟩ (.slice (some ⟨G, 0, none⟩) ((cPre1 d i).length + 1) cap)) (some BB) := grown_setRow (World.grownBy.refl _ _) rfl _
            refine ⟨_, by simp, Lib.hid (grown_set (grown_any (grown_alloc hgA.out _) Hg.out (fun r e => by have := (hoA.out.lt r e).1; omega)) hBl _), Lib.hid (set_blk Hbb11.out 1 _), Lib.hid ?_⟩
            have e : cPre d i i = cPre1 d i ++ [cCopy] := by simp [cPre, cPre1]
            rw [e, List.flatMap_append, List.length_append]
            exact Ho.out.kept hgs (.inr (by have := (owns_cells Ho.out).1; intro e; injection e with e; simp only at e; omega))
          · have hd2 : ((i : Int) == (u : Int)) = false := beq_eq_false_iff_ne.2 (by omega)
            go_wp2_with fail
            go_meet
            have e : cPre d u i = cPre1 d i := by simp [cPre, cPre1, hd]
            exact ⟨_, by simp, hgA, hbA, Lib.hid (by rw [e]; exact hoA.out)⟩
        case rest =>
          obtain ⟨vc, rfl, hgB, hbB, hoB⟩ := hcut
          clear hgA hbA hoA c1 hne1
          go_upto_region 15 with (fail)
          rename World => wB
          obtain ⟨EB, hEB⟩ : ∃ EB : Nat, EB = wB.heap.size := ⟨_, rfl⟩
          obtain ⟨wE, hwE⟩ : ∃ wE : World, wE = wB.alloc (.cells #[.int .u8 14, .string ⟨#[]⟩, .string ⟨#[]⟩, .string ⟨#[]⟩, .int .i64 0, .string ⟨#[]⟩, .slice none 0 0, .slice none 0 0] 45) := ⟨_, rfl⟩
          have heb : wE.heap[EB]? = some (.cells #[.int .u8 14, .string ⟨#[]⟩, .string ⟨#[]⟩, .string ⟨#[]⟩, .int .i64 0, .string ⟨#[]⟩, .slice none 0 0, .slice none 0 0] 45 (0, 0)) := by rw [hwE, hEB]; exact World.alloc_heap_new _ _
          have HgE := Lib.hid (show wB.grownBy wE none by rw [hwE]; exact World.grownBy_alloc _ _ _)
          have hEs := seen_lt heb
          have hEl : wB.heap.size ≤ EB := by omega
          have Heb := Lib.hid heb
          rw [← hwE, ← hEB]
          clear hwE hEB heb
          go_upto_if 80 with (fail)
          go_cut [19] (fun s19 wx => ∃ (vl : Value), s19 = .pointer (some ⟨EB, 0, none⟩) ∧ Hid (wB.grownBy wx none) ∧ Hid (wx.heap[EB]? = some (.cells (encI (cEnd1 k i) vl).toArray 45 (0, 0))) ∧ Hid (LabAt wx (EB + 1) vl (cEnd1 k i).labels))
          case first =>
            by_cases hd : i + 1 < k
            · have hd2 : (i : Int) + 1 < (k : Int) := by omega
              have hnm := fun W => name_any (i + 1) (by omega) W
              go_wp2_with (first
                | (go_at_call 15; go_must (refine (hnm _).mono ?_; rintro e w9 ⟨rfl, hg9⟩;
                                                                                          have heb9 := (hg9.block EB hEs (by simp)).trans Heb.out;
                                                                                          have hc9 : ∀ (o : Obj) (j : Nat), (w9.alloc o).cell? ⟨EB, j, none⟩ = #[Value.int .u8 14, .string ⟨#[]⟩, .string ⟨#[]⟩, .string ⟨#[]⟩, .int .i64 0, .string ⟨#[]⟩, .slice none 0 0, .slice none 0 0][j]? := fun o j => (World.cell?_of_block (Below.heap_alloc w9 o EB (seen_lt heb9))).trans ((blk_facts heb9).1 j);
                                                                                          have hf9 : ∀ (o : Obj) (j : Nat), (w9.alloc o).frozen? ⟨EB, j, none⟩ = false := fun o j => (World.frozen?_of_block (Below.heap_alloc w9 o EB (seen_lt heb9))).trans ((blk_facts heb9).2 j);
                                                                                          have Heb9 := Lib.hid heb9; have Hg9 := Lib.hid hg9; clear heb9 hg9)))
              go_meet
              have e : cEnd1 k i = ⟨13, [], [], [], 0, [], [], [nmB (i + 1)]⟩ := by simp [cEnd1, hd]
              rw [e]
              have hL := World.alloc_heap_new w9 (.cells #[.string ⟨(nmB (i + 1)).toArray⟩] 9)
              have hgs := setIns_grown (w9.alloc (.cells #[.string ⟨(nmB (i + 1)).toArray⟩] 9)) EB (.int .u8 13) (.string ⟨#[]⟩) (.string ⟨#[]⟩) (.string ⟨#[]⟩) (.int .i64 0) (.string ⟨#[]⟩) (.slice none 0 0) (.slice (some ⟨w9.heap.size, 0, none⟩) 1 1)
              have hbs := setIns_blk (x := ⟨14, [], [], [], 0, [], [], []⟩) (v := .slice none 0 0) ((Below.heap_alloc w9 (.cells #[.string ⟨(nmB (i + 1)).toArray⟩] 9) EB (seen_lt Heb9.out)).trans Heb9.out) (.int .u8 13) (.string ⟨#[]⟩) (.string ⟨#[]⟩) (.string ⟨#[]⟩) (.int .i64 0) (.string ⟨#[]⟩) (.slice none 0 0) (.slice (some ⟨w9.heap.size, 0, none⟩) 1 1)
              have hs9 := Hg9.out.size
              refine ⟨_, rfl, Lib.hid (grown_any (grown_alloc (grown_trans HgE.out Hg9.out) _) hgs (fun r e => by injection e with e; omega)), Lib.hid hbs, Lib.hid (.inr ⟨w9.heap.size, by omega, Nat.lt_of_lt_of_le (seen_lt hL) hgs.size, rfl, (hgs.block _ (seen_lt hL) (by intro e; injection e with e; omega)).trans hL, by simp, fun s hs => ?_⟩)⟩
              rw [List.mem_singleton.1 hs]
              simp [nmB]
            · have hd2 : ¬ (i : Int) + 1 < (k : Int) := by omega
              go_wp2_with fail
              go_meet
              have e : cEnd1 k i = ⟨14, [], [], [], 0, [], [], []⟩ := by simp [cEnd1, hd]
              rw [e]
              exact ⟨_, rfl, HgE, Heb, Lib.hid (.inl ⟨rfl, rfl⟩)⟩
          case rest =>
            obtain ⟨vl1, rfl, hgF, hbF, hlF⟩ := hcut
            rename World => wF
            obtain ⟨x1, hx1⟩ : ∃ x1, x1 = cEnd1 k i := ⟨_, rfl⟩
            rw [← hx1] at hbF hlF
            have Hx1 := Lib.hid hx1
            clear hx1
            have hFs := seen_lt hbF.out
            have hFB := seen_lt hI.out.fb
            clear Heb HgE
            go_upto_if 88 with (fail)
            go_cut [19] (fun s19 wx => ∃ (vl : Value), s19 = .pointer (some ⟨EB, 0, none⟩) ∧ Hid (wB.grownBy wx none) ∧ Hid (wx.heap[EB]? = some (.cells (encI (cEnd k a t i) vl).toArray 45 (0, 0))) ∧ Hid (LabAt wx (EB + 1) vl (cEnd k a t i).labels))
            case first =>
              by_cases hd : i = a
              · subst hd
                have hnm := fun W => name_any (i + 1) (by omega) W
                have hnm2 := fun W => name_any t (by omega) W
                go_upto_region 18 with (fail)
                repeat go_step
                refine (hnm _).mono ?_
                rintro e w8 ⟨rfl, hg8⟩
                dsimp only
                repeat go_step
                refine (hnm2 _).mono ?_
                rintro e w9 ⟨rfl, hg9'⟩
                have hg9 := grown_trans hg8 hg9'
                have heb9 := (hg9.block EB hFs (by simp)).trans hbF.out
                have hc9 : ∀ (o : Obj) (j : Nat), (w9.alloc o).cell? ⟨EB, j, none⟩ = #[Value.int .u8 x1.op, .string ⟨x1.dst.toArray⟩, .string ⟨x1.a.toArray⟩, .string ⟨x1.b.toArray⟩, .int .i64 x1.n, .string ⟨x1.fn.toArray⟩, .slice none 0 0, vl1][j]? := fun o j => (World.cell?_of_block (Below.heap_alloc w9 o EB (seen_lt heb9))).trans ((blk_facts heb9).1 j)
                have hf9 : ∀ (o : Obj) (j : Nat), (w9.alloc o).frozen? ⟨EB, j, none⟩ = false := fun o j => (World.frozen?_of_block (Below.heap_alloc w9 o EB (seen_lt heb9))).trans ((blk_facts heb9).2 j)
                have Heb9 := Lib.hid heb9
                have Hg9 := Lib.hid hg9
                clear heb9 hg9 hg8 hg9' hnm hnm2
                go_wp2_with fail
                go_meet
                have e : cEnd k i t i = ⟨12, [], [], [], 0, [], [], [nmB (i + 1), nmB t]⟩ := by simp [cEnd]
                rw [e]
                have hL := World.alloc_heap_new w9 (.cells #[.string ⟨(nmB (i + 1)).toArray⟩, .string ⟨(nmB t).toArray⟩] 9)
                have hgs := setIns_grown (w9.alloc (.cells #[.string ⟨(nmB (i + 1)).toArray⟩, .string ⟨(nmB t).toArray⟩] 9)) EB (.int .u8 12) (.string ⟨#[]⟩) (.string ⟨#[]⟩) (.string ⟨#[]⟩) (.int .i64 0) (.string ⟨#[]⟩) (.slice none 0 0) (.slice (some ⟨w9.heap.size, 0, none⟩) 2 2)
                have hbs := setIns_blk ((Below.heap_alloc w9 (.cells #[.string ⟨(nmB (i + 1)).toArray⟩, .string ⟨(nmB t).toArray⟩] 9) EB (seen_lt Heb9.out)).trans Heb9.out) (.int .u8 12) (.string ⟨#[]⟩) (.string ⟨#[]⟩) (.string ⟨#[]⟩) (.int .i64 0) (.string ⟨#[]⟩) (.slice none 0 0) (.slice (some ⟨w9.heap.size, 0, none⟩) 2 2)
                have hs9 := Hg9.out.size
                refine ⟨_, rfl, Lib.hid (grown_any (grown_alloc (grown_trans hgF.out Hg9.out) _) hgs (fun r e => by injection e with e; omega)), Lib.hid hbs, Lib.hid (.inr ⟨w9.heap.size, by omega, Nat.lt_of_lt_of_le (seen_lt hL) hgs.size, rfl, (hgs.block _ (seen_lt hL) (by intro e; injection e with e; omega)).trans hL, by simp, fun s hs => ?_⟩)⟩
                simp only [List.mem_cons, List.not_mem_nil, or_false] at hs
                rcases hs with rfl | rfl <;> simp [nmB]
              · have hd2 : ((i : Int) == (a : Int)) = false := beq_eq_false_iff_ne.2 (by omega)
                go_wp2_with fail
                go_meet
                have e : cEnd k a t i = x1 := by rw [Hx1.out]; simp [cEnd, cEnd1, hd]
                rw [e]
                exact ⟨_, rfl, hgF, hbF, hlF⟩
            case rest =>
              obtain ⟨vl, rfl, hgG, hbG, hlG⟩ := hcut
              clear hgF hbF hlF
              rename World => wG
              obtain ⟨x2, hx2⟩ : ∃ x2, x2 = cEnd k a t i := ⟨_, rfl⟩
              rw [← hx2] at hbG hlG
              have Hx2 := Lib.hid hx2
              clear hx2
              have hbb := (hgG.out.block BB (seen_lt hbB.out) (by simp)).trans hbB.out
              have hoG := hoB.out.kept hgG.out (by cases vc.ownBlock <;> simp)
              have hvc : ∀ g, vc.ownBlock = some g → BB + 1 ≤ g ∧ g < wB.heap.size := fun g e => hoB.out.lt g e
              have hgr := grown_trans hgB.out hgG.out
              have hsB := hgB.out.size
              have hsG := hgG.out.size
              obtain ⟨A, c, rfl, _, _, _, _⟩ := owns_slice' hoG
              have hp1 : (cPre d u i).length ≤ 2 := by
                unfold cPre
                split <;> split <;> simp
              have c1 : wG.cell? ⟨BB, 1, none⟩ = some (.slice A (cPre d u i).length c) := (blk_facts hbb).1 1
              have i0 : wG.cell? ⟨EB, 0, none⟩ = some (.int .u8 x2.op) := (blk_facts hbG.out).1 0
              have i1 : wG.cell? ⟨EB, 1, none⟩ = some (.string ⟨x2.dst.toArray⟩) := (blk_facts hbG.out).1 1
              have i2 : wG.cell? ⟨EB, 2, none⟩ = some (.string ⟨x2.a.toArray⟩) := (blk_facts hbG.out).1 2
              have i3 : wG.cell? ⟨EB, 3, none⟩ = some (.string ⟨x2.b.toArray⟩) := (blk_facts hbG.out).1 3
              have i4 : wG.cell? ⟨EB, 4, none⟩ = some (.int .i64 x2.n) := (blk_facts hbG.out).1 4
              have i5 : wG.cell? ⟨EB, 5, none⟩ = some (.string ⟨x2.fn.toArray⟩) := (blk_facts hbG.out).1 5
              have i6 : wG.cell? ⟨EB, 6, none⟩ = some (.slice none 0 0) := (blk_facts hbG.out).1 6
              have i7 : wG.cell? ⟨EB, 7, none⟩ = some vl := (blk_facts hbG.out).1 7
              have hBs2 : BB < wG.heap.size := seen_lt hbb
              have hBE : BB < EB := by have := seen_lt hbB.out; omega
              have hvl1 : vl.oneCell' = true := by
                rcases hlG.out with ⟨_, rfl⟩ | ⟨_, _, _, rfl, _⟩ <;> rfl
              have hvlc : vl.cells = #[vl] := by
                rcases hlG.out with ⟨_, rfl⟩ | ⟨_, _, _, rfl, _⟩ <;> rfl
              have hne1 : some BB ≠ (Value.slice A (cPre d u i).length c).ownBlock := fun e => by have := (hvc BB e.symm).1; omega
              have HoG := Lib.hid hoG
              have Hbb := Lib.hid hbb
              have Hgr := Lib.hid hgr
              have Hvc := Lib.hid hvc
              clear hbb hoG hgr hvc hgG hbB hoB hgB
              go_upto_region 20 with ((at_builtin; go_must (refine wpList_pushN rfl (.tmp 97) (.tmp 99) 40 rfl (BB + 1) 45 _ 8 128 Tryz.underlying40 insInfo rfl (by decide) (.slice A (cPre d u i).length c) _ _ rfl (HoG.out.alloc _) wG.heap.size (encI x2 vl) rfl (by simp [encI, Value.oneCell']; exact hvl1) rfl _ _ (World.alloc_heap_new wG _) rfl (by unfold maxLen; omega) (by omega) (by simp; omega) ?_; intro G cap w11 ho hg hor;
                                                                                          have hbb11 := (hg.block BB (by simp; omega) hne1).trans ((Below.heap_alloc wG _ BB (by omega)).trans Hbb.out);
                                                                                          have z1 : w11.cell? ⟨BB, 1, none⟩ = some (.slice A (cPre d u i).length c) := (blk_facts hbb11).1 1; have z2 : w11.frozen? ⟨BB, 1, none⟩ = false := (blk_facts hbb11).2 1;
                                                                                          have Hbb11 := Lib.hid hbb11; have Ho := Lib.hid ho; have Hg := Lib.hid hg; have Hor := Lib.hid hor; clear hbb11 ho hg hor)))
              clear i0 i1 i2 i3 i4 i5 i6 i7 c1 z1 z2
              obtain ⟨w12, hw12⟩ : ∃ w12 : World, w12 = w11.setCell ⟨BB, 1, none⟩ (.slice (some ⟨G, 0, none⟩) ((cPre d u i).length + 1) cap) := ⟨_, rfl⟩
              have hgs : w11.grownBy w12 (some BB) := by rw [hw12]; exact grown_setRow (World.grownBy.refl _ _) rfl _
              have hgA := grown_any (grown_alloc Hgr.out _) Hg.out (fun r e => by have := (Hvc.out r e).1; omega)
              have hg12 : wr.grownBy w12 none := by rw [hw12]; exact grown_set hgA hBl _
              have hbb12 : w12.heap[BB]? = some (.cells #[.string ⟨(nmB i).toArray⟩, .slice (some ⟨G, 0, none⟩) ((cPre d u i).length + 1) cap] 42 (0, 0)) := by rw [hw12]; exact set_blk Hbb11.out 1 _
              have ho12 := Ho.out.kept hgs (.inr (by have := (owns_cells Ho.out).1; intro e; injection e with e; simp only at e; omega))
              have hl12 : LabAt w12 (EB + 1) vl x2.labels := by
                have h2 : LabAt w11 (EB + 1) vl x2.labels := by
                  refine LabAt.grow ?_ Hg.out (fun r e L hL => by have := (Hvc.out r e).2; have := hlG.out.low hL; omega)
                  exact hlG.out.grow (World.grownBy_alloc wG _ none) (fun r e => by cases e)
                exact h2.grow hgs (fun r e L hL => by injection e with e; have := hlG.out.low hL; omega)
              rw [Hx2.out] at ho12 hl12
              have Hcode := Lib.hid (ch_code (a := a) (t := t) ho12 rfl rfl hl12 (lo2 := wr.heap.size) (by omega) (by omega))
              have hfb12 := (hg12.block FB hFB (by simp)).trans hI.out.fb
              have hown12 := hI.out.own.kept hg12 (by cases vb.ownBlock <;> simp)
              have hvb : ∀ g, vb.ownBlock = some g → FB + 1 ≤ g ∧ g < wr.heap.size := fun g e => hI.out.own.lt g e
              obtain ⟨A2, c2, rfl, _, _, _, _⟩ := owns_slice' hown12
              have hne2 : some FB ≠ (Value.slice A2 i c2).ownBlock := fun e => by have := (hvb FB e.symm).1; omega
              rw [← hw12]
              clear hw12 hgA hgs ho12 hl12 hvb
              have j2 : w12.cell? ⟨FB, 2, none⟩ = some (.slice A2 i c2) := (blk_facts hfb12).1 2
              have y0 : w12.cell? ⟨BB, 0, none⟩ = some (.string ⟨(nmB i).toArray⟩) := (blk_facts hbb12).1 0
              have y1 : w12.cell? ⟨BB, 1, none⟩ = some (.slice (some ⟨G, 0, none⟩) ((cPre d u i).length + 1) cap) := (blk_facts hbb12).1 1
              have hFl12 := seen_lt hfb12
              have Hfb12 := Lib.hid hfb12
              have Hown12 := Lib.hid hown12
              have Hg12 := Lib.hid hg12
              clear hfb12 hown12 hg12 hbb12
              go_wp2_with ((at_builtin; go_must (refine wpList_pushN rfl (.tmp 103) (.tmp 105) 35 rfl (FB + 1) 42 _ 2 40 Tryz.underlying35 blkInfo rfl (by decide) (.slice A2 i c2) _ _ rfl (Hown12.out.alloc _) w12.heap.size [.string ⟨(nmB i).toArray⟩, .slice (some ⟨G, 0, none⟩) ((cPre d u i).length + 1) cap] rfl (by simp [Value.oneCell']) rfl _ _ (World.alloc_heap_new w12 _) rfl (by unfold maxLen; omega) (by omega) (by simp; omega) ?_; intro G2 cap2 w13 ho hg hor;
                                                                                          have hfb13 := (hg.block FB (by simp; omega) hne2).trans ((Below.heap_alloc w12 _ FB (by omega)).trans Hfb12.out);
                                                                                          have x1 : w13.cell? ⟨FB, 2, none⟩ = some (.slice A2 i c2) := (blk_facts hfb13).1 2; have x2 : w13.frozen? ⟨FB, 2, none⟩ = false := (blk_facts hfb13).2 2;
                                                                                          have Ho2 := Lib.hid ho; have Hg2 := Lib.hid hg; have Hor2 := Lib.hid hor; clear hfb13 ho hg hor)))
              go_roundw
              case rel => exact ⟨i + 1, _, _, by go_num, by omega, Lib.hid (hI.out.step Hg12.out Hcode.out (World.grownBy_alloc w12 _ none) Ho2.out Hg2.out Hor2.out)⟩
              case measure => simp [intOf]; omega
    · have hki : i = k := by omega
      subst hki
      have hch2 : chBad d u a t = (decide (u < d) || (decide (a < d) && decide (d < t) && decide (t ≤ u))) := rfl
      obtain ⟨pb, hpb⟩ : ∃ pb, pb = (decide (a < d) && decide (d < t) && decide (t ≤ u)) := ⟨_, rfl⟩
      rw [← hpb] at hch2
      have Hpb := Lib.hid hpb
      have Hch2 := Lib.hid hch2
      clear hpb hch2
      go_upto_region 21 with (fail)
      go_cut [20] (fun s20 wx => s20 = .bool pb ∧ wr = wx)
      case first =>
        by_cases p1 : a < d
        · by_cases p2 : d < t
          · by_cases p3 : t ≤ u
            · have q1 : (a : Int) < (d : Int) := by omega
              have q2 : (d : Int) < (t : Int) := by omega
              have q3 : (t : Int) ≤ (u : Int) := by omega
              go_wp2_with fail
              go_meet
              exact ⟨by rw [Hpb.out]; simp [p1, p2, p3], rfl⟩
            · have q1 : (a : Int) < (d : Int) := by omega
              have q2 : (d : Int) < (t : Int) := by omega
              have q3 : ¬ (t : Int) ≤ (u : Int) := by omega
              go_wp2_with fail
              go_meet
              exact ⟨by rw [Hpb.out]; simp [p1, p2, p3], rfl⟩
          · have q1 : (a : Int) < (d : Int) := by omega
            have q2 : ¬ (d : Int) < (t : Int) := by omega
            go_wp2_with fail
            go_meet
            exact ⟨by rw [Hpb.out]; simp [p1, p2], rfl⟩
        · have q1 : ¬ (a : Int) < (d : Int) := by omega
          go_wp2_with fail
          go_meet
          exact ⟨by rw [Hpb.out]; simp [p1], rfl⟩
      case rest =>
        obtain ⟨rfl, rfl⟩ := hcut
        have hfb := hI.out.fb
        have j0 : wr.cell? ⟨FB, 0, none⟩ = some (.string ⟨#[109, 97, 105, 110]⟩) := (blk_facts hfb).1 0
        have j1 : wr.cell? ⟨FB, 1, none⟩ = some (.slice none 0 0) := (blk_facts hfb).1 1
        have j2 : wr.cell? ⟨FB, 2, none⟩ = some vb := (blk_facts hfb).1 2
        obtain ⟨A2, c2, rfl, _, _, _, _⟩ := owns_slice' hI.out.own
        obtain ⟨W, hW⟩ : ∃ W : World, W = wr.alloc (.cells #[.string ⟨#[109, 97, 105, 110]⟩, .slice none 0 0, .slice A2 i c2] 37) := ⟨_, rfl⟩
        have hWP : W.heap[wr.heap.size]? = some (.cells #[.string ⟨mainS.toArray⟩, .slice none 0 0, .slice A2 i c2] 37 (0, 0)) := by rw [hW]; exact World.alloc_heap_new _ _
        have hWg : wr.grownBy W none := by rw [hW]; exact World.grownBy_alloc _ _ _
        have hck := check_any [cFun i d u a t] _ _ W (Nat.le_refl _) (hI.out.prog (by omega) hWg hWP)
        rw [ch_chk HC.out] at hck
        have HgW := Lib.hid (grown_trans hI.out.low hWg)
        clear hfb hWP hWg
        subst hW
        by_cases p4 : u < d
        · have q4 : (u : Int) < (d : Int) := by omega
          rw [if_pos (by rw [Hch2.out]; simp [p4])] at hck
          simp only [wrongV, wrongC] at hck
          go_wp2_with (first
            | (go_at_call 8; refine hck.mono ?_; rintro e w3 ⟨rfl, hg3⟩)
            | (go_at_call 9; refine (hch _).mono ?_; rintro e w7 ⟨rfl, hg7⟩))
          go_ret
          exact ⟨rfl, grown_trans (grown_trans HgW.out hg3) (grown_of_alloc hg7)⟩
        · have q4 : ¬ (u : Int) < (d : Int) := by omega
          cases pb with
          | true =>
            rw [if_pos (by rw [Hch2.out]; simp)] at hck
            simp only [wrongV, wrongC] at hck
            go_wp2_with (first
              | (go_at_call 8; refine hck.mono ?_; rintro e w3 ⟨rfl, hg3⟩)
              | (go_at_call 9; refine (hch _).mono ?_; rintro e w7 ⟨rfl, hg7⟩))
            go_ret
            exact ⟨rfl, grown_trans (grown_trans HgW.out hg3) (grown_of_alloc hg7)⟩
          | false =>
            rw [if_neg (by rw [Hch2.out]; simp [p4])] at hck
            simp only [wrongV, wrongC] at hck
            go_wp2_with (first
              | (go_at_call 8; refine hck.mono ?_; rintro e w3 ⟨rfl, hg3⟩)
              | (go_at_call 9; refine (hch _).mono ?_; rintro e w7 ⟨rfl, hg7⟩))
            go_ret
            exact ⟨rfl, grown_trans (grown_trans HgW.out hg3) (grown_of_alloc hg7)⟩
end Go.Proofs.YtpemkbjbbcnddaaGreat

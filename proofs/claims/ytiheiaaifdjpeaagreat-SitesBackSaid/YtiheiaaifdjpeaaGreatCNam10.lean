/- The contract of names.walk.badName. Conditions: the program and the shapes lie in memory. -/
import Derived.Test.YtiheiaaifdjpeaaGreatCShp
import Derived.Deep.DeepCutAuto
set_option linter.unusedVariables false
set_option linter.unusedSimpArgs false
set_option linter.unusedSectionVars false
set_option maxHeartbeats 2000000
set_option maxRecDepth 100000
namespace Go.Proofs.YtiheiaaifdjpeaaGreat
open Go.RowKit
theorem bad_one (op : Bool) (s : Str) (w : World) (hs : s.length ≤ 9223372036854775807) :
  Calls Tryz.prog 162 #[.bool op, .slice (some ⟨w.heap.size, 0, none⟩) 1 1] (w.alloc (.cells #[.string ⟨s.toArray⟩] 9)) fun e w' => e = .returned (.bool (bad1 op s)) ∧ Below w.heap.size w w' := by
 have h := bad_any op (.slice (some ⟨w.heap.size, 0, none⟩) 1 1) [s] (w.alloc (.cells #[.string ⟨s.toArray⟩] 9)).heap.size (w.alloc (.cells #[.string ⟨s.toArray⟩] 9)) (Nat.le_refl _)
  ⟨_, 1, rfl, Nat.le_refl _, by unfold maxLen; omega, fun k x hx => by
   match k, hx with
   | 0, hx =>
    simp only [List.getElem?_cons_zero, Option.some.injEq] at hx
    subst hx
    exact ⟨w.heap.size, 0, rfl, by simp, by simp, hs⟩⟩
 exact h.mono fun e w' ⟨he, hb⟩ => ⟨by rw [he]; simp [badL], ((Below.refl w.heap.size w).alloc (Nat.le_refl _) _).trans (hb.mono (by simp))⟩
theorem shp_cases (o : Nat) : ((shp0 o).dst, (shp0 o).fn, (shp0 o).a, (shp0 o).b) ∈ [(true, false, false, false), (true, true, false, false), (true, false, true, false), (false, false, true, true), (false, false, false, false), (false, false, true, false)] := by
 match o with
 | 0 | 1 | 2 | 3 | 4 | 5 | 6 | 7 | 8 | 9 | 10 | 11 | 12 | 13 | 14 => decide
 | n + 15 => simp [shp0, shpOf]
structure BnX (w0 : World) (gx gs : Nat) (bx bs : Array Value) (W : World) : Prop where
 x : W.heap[gx]? = some (.cells bx 38 (0, 0))
 s : W.heap[gs]? = some (.cells bs 210 (0, 0))
 g : w0.grownBy W none
theorem BnX.step {w0 W W' : World} {gx gs : Nat} {bx bs : Array Value} (h : BnX w0 gx gs bx bs W) (hb : Below W.heap.size W W') : BnX w0 gx gs bx bs W' :=
 ⟨(hb.block gx (seen_lt h.x)).trans h.x, (hb.block gs (seen_lt h.s)).trans h.s, grown_trans h.g (below_grown hb)⟩
theorem BnX.low {w W : World} {o : Obj} {gx gs : Nat} {bx bs : Array Value} (h : BnX (w.alloc o) gx gs bx bs W) : Below w.heap.size w W := grown_w0 h.g
def wr1 (x : GIns) : Bool := ((((shp0 x.op).dst && bad1 false x.dst) || ((shp0 x.op).fn && bad1 false x.fn)) || ((shp0 x.op).a && bad1 true x.a)) || ((shp0 x.op).b && bad1 true x.b)
theorem wrongName_eq (x : GIns) : wrongName x = ((wr1 x || ((shp0 x.op).args && (badL true x.args || x.args.contains []))) || ((shp0 x.op).labels && (badL false x.labels || x.labels.contains []))) := by
 simp [wrongName, wr1, badL, Bool.or_assoc]
theorem badName_any (p : GProg) (vp vm : Value) (B wb : Nat) (w : World) (hB : B ≤ w.heap.size) (h : WalkAt w B wb p vp vm) (mb : Nat) (hvm : vm = .map (some mb)) (hmb : w.heap[mb]? = some shapeObj) :
  Calls Tryz.prog 114 #[.pointer (some ⟨wb, 0, none⟩)] w fun e w' => e = .returned (ptV (rBadName p)) ∧ w.grownBy w' none := by
 obtain ⟨A, c, rfl, hm, hlc, hcm, hA⟩ := h.prog.open_
 have c0 := h.c0
 have hlt : wb < w.heap.size := by have := h.lt; omega
 have hne : wb ≠ w.heap.size := by omega
 have c1w := h.c1
 have hml := seen_lt hmb
 clear h
 go_enter Tryz.func114, Tryz.ntmps114
 go_wp2
 go_loopw [18] (fun s8 wr => ∃ k : Nat, k ≤ p.length ∧ s8 = .int .i64 k ∧ Hid ((w.alloc (.cells z3 42)).grownBy wr none) ∧ Hid (∀ j, j < k → ∀ y, p[j]? = some y → bnF j y = none)) (fun s8 _ => p.length - (intOf s8).toNat)
 case atStart => exact ⟨0, Nat.zero_le _, rfl, World.grownBy.refl _ _, below_zero⟩
 case round =>
  obtain ⟨k, hkl, rfl, hg, hP⟩ := hrel
  have hsz := size_w0 hg.out
  have hne0 : w.heap.size ≠ wr.heap.size := by omega
  have hblk := blk_w0 hg.out
  have hb := grown_w0 hg.out
  by_cases hl : k < p.length
  ·obtain ⟨x, b, off, hx, rfl, hbB, hr⟩ := hA.at_ hl
   obtain ⟨A1, d1, A2, d2, hf, m1, m2, e0, e1, e2⟩ := funR_open hr
   have hb' : b < w.heap.size := by omega
   have hbne : b ≠ wr.heap.size := by omega
   replace e0 := cur hb hb' e0
   replace e1 := cur hb hb' e1
   replace e2 := cur hb hb' e2
   have Hx := Lib.hid hx
   clear hx hr
   have hnl := hf.name
   have hcl := fun w' => is_any x.name w' hnl
   cases hq : isName x.name with
   | false =>
    have HF := Lib.hid (show bnF k x = some (k, 0, 0) by rw [bnF, if_pos (by rw [hq]; rfl)])
    obtain ⟨hb1, hb2⟩ := blk_facts hblk
    rw [hq] at hcl
    clear hblk hq
    go_wp2_with (go_at_call 160; refine (hcl _).mono ?_; rintro e w' ⟨rfl, rfl⟩)
    refine bodyPost_ret (v := ptV (some (k, 0, 0))) (by simp [results, Tryz.results114, go_sem, ptV, ptC, hb1, hsz, hne0]) rfl ⟨?_, ?_⟩
    ·rw [rBadName, firstOf_some hP.out Hx.out HF.out]
    ·repeat (first | exact grown_of_alloc hg.out | apply grown_alloc | refine grown_drewN ?_ _ | refine grown_set ?_ (Nat.le_refl _) _)
   | true =>
    have hcp := containsFunc_str (.slice A1 x.params.length d1) x.params 161 #[] (wr.alloc (.cells #[.string ⟨x.name.toArray⟩, .slice A1 x.params.length d1, .slice A2 x.blocks.length d2] 58)) B (fun s => !isName s) (by simp; omega) (hf.params.below strR.keeps (hb.alloc hb.size _) hB) enters_badName_1
     (fun s W hW hs => (badName_1 s W hs).mono fun e w' ⟨he, hw⟩ => ⟨he, hw ▸ hW⟩)
    rw [hq] at hcl
    have hblk1 : ∀ w1, Below (wr.alloc (.cells #[.string ⟨x.name.toArray⟩, .slice A1 x.params.length d1, .slice A2 x.blocks.length d2] 58)).heap.size (wr.alloc (.cells #[.string ⟨x.name.toArray⟩, .slice A1 x.params.length d1, .slice A2 x.blocks.length d2] 58)) w1 → w1.heap[w.heap.size]? = some (.cells z3 42 (0, 0)) ∧ w1.heap[wr.heap.size]? = some (.cells #[.string ⟨x.name.toArray⟩, .slice A1 x.params.length d1, .slice A2 x.blocks.length d2] 58 (0, 0)) ∧ (w.alloc (.cells z3 42)).grownBy w1 none := fun w1 h1 =>
     ⟨(h1.block _ (by simp; omega)).trans (seen_alloc hblk _), (h1.block _ (by simp)).trans (World.alloc_heap_new wr _), grown_trans (grown_alloc hg.out _) (below_grown h1)⟩
    have Hblk1 := Lib.hid hblk1
    clear hblk hblk1 hb
    cases hq2 : x.params.any (fun s => !isName s) with
    | true =>
     have HF := Lib.hid (show bnF k x = some (k, 0, 0) by rw [bnF, if_pos (by rw [hq2]; simp)])
     rw [hq2] at hcp
     clear hq hq2
     go_wp2_with (first | (go_at_call 160; refine (hcl _).mono ?_; rintro e w' ⟨rfl, rfl⟩) | (go_at_call 148; refine hcp.mono ?_; rintro e w1 ⟨rfl, hb9⟩; obtain ⟨hz1, hx1, hg9⟩ := Hblk1.out w1 hb9; obtain ⟨hb1, hb2⟩ := blk_facts hz1))
     refine bodyPost_ret (v := ptV (some (k, 0, 0))) (by simp [results, Tryz.results114, go_sem, ptV, ptC, hb1, hsz, hne0]) rfl ⟨?_, ?_⟩
     ·rw [rBadName, firstOf_some hP.out Hx.out HF.out]
     ·repeat (first | exact grown_of_alloc hg9 | refine grown_set ?_ (Nat.le_refl _) _)
    | false =>
     have HF := Lib.hid (show bnF k x = firstOf x.blocks (bnB k) by rw [bnF, if_neg (by rw [hq, hq2]; simp)])
     rw [hq2] at hcp
     clear hq hq2
     go_wp2_with (first | (go_at_call 160; refine (hcl _).mono ?_; rintro e w' ⟨rfl, rfl⟩) | (go_at_call 148; refine hcp.mono ?_; rintro e w1 ⟨rfl, hb9⟩; obtain ⟨hz1, hx1, hg9⟩ := Hblk1.out w1 hb9; obtain ⟨hx8, hx9⟩ := blk_facts hx1))
     have hblk := hz1
     clear hx8 hx9 hz1 hx1 hcl hcp
     obtain ⟨wo, hwo⟩ : ∃ wo : World, wo = w1 := ⟨_, rfl⟩
     rw [← hwo]
     have hgo : (w.alloc (.cells z3 42)).grownBy wo none := by rw [hwo]; repeat (first | exact hg.out | assumption | apply grown_alloc)
     have Hgo := Lib.hid hgo
     have hB2 := hf.blocks
     clear hwo hgo e0 e1 e2 hblk hsz hne0 hbne
     go_loopw [37] (fun s8 wi => ∃ k2 : Nat, k2 ≤ x.blocks.length ∧ s8 = .int .i64 k2 ∧ Hid ((w.alloc (.cells z3 42)).grownBy wi none) ∧ Hid (∀ j, j < k2 → ∀ y, x.blocks[j]? = some y → bnB k j y = none)) (fun s8 _ => x.blocks.length - (intOf s8).toNat)
     case atStart => exact ⟨0, Nat.zero_le _, rfl, Hgo.out, below_zero⟩
     case round =>
      obtain ⟨k2, hkl2, rfl, hg2, hP2⟩ := hrel
      have hsz := size_w0 hg2.out
      have hne0 : w.heap.size ≠ wr.heap.size := by omega
      have hblk := blk_w0 hg2.out
      have hb := grown_w0 hg2.out
      by_cases hl2 : k2 < x.blocks.length
      ·obtain ⟨y, b2, off2, hy, rfl, hbB2, hr2⟩ := hB2.at_ hl2
       obtain ⟨A3, d3, hf2, m3, e0, e1⟩ := blkR_open hr2
       have hb2' : b2 < w.heap.size := by omega
       have hbne2 : b2 ≠ wr.heap.size := by omega
       replace e0 := cur hb hb2' e0
       replace e1 := cur hb hb2' e1
       have Hy := Lib.hid hy
       clear hy hr2 hb
       have hll := hf2.label
       cases hq : isName y.label with
       | false =>
        have HB := Lib.hid (show bnB k k2 y = some (k, k2, 0) by rw [bnB, if_pos (by rw [hq]; rfl)])
        obtain ⟨hb1, hb2⟩ := blk_facts hblk
        have hcl := fun w' => is_any y.label w' hll
        rw [hq] at hcl
        clear hblk hq
        go_wp2_with (go_at_call 160; refine (hcl _).mono ?_; rintro e w' ⟨rfl, rfl⟩)
        refine bodyPost_ret (v := ptV (some (k, k2, 0))) (by simp [results, Tryz.results114, go_sem, ptV, ptC, hb1, hsz, hne0]) rfl ⟨?_, ?_⟩
        ·rw [rBadName, firstOf_some hP.out Hx.out (HF.out.trans (firstOf_some hP2.out Hy.out HB.out))]
        ·repeat (first | exact grown_of_alloc hg2.out | apply grown_alloc | refine grown_drewN ?_ _ | refine grown_set ?_ (Nat.le_refl _) _)
       | true =>
        have HB := Lib.hid (show bnB k k2 y = firstOf y.code (bnC k k2) by rw [bnB, if_neg (by rw [hq]; simp)])
        have hcl := fun w' => is_any y.label w' hll
        rw [hq] at hcl
        have Hblk := Lib.hid hblk
        clear hblk hq
        go_wp2_with (go_at_call 160; refine (hcl _).mono ?_; rintro e w' ⟨rfl, rfl⟩)
        clear hcl
        have hblk := Hblk.out
        obtain ⟨wo2, hwo2⟩ : ∃ wo2 : World, wo2 = wr.alloc (.cells #[.string ⟨y.label.toArray⟩, .slice A3 y.code.length d3] 61) := ⟨_, rfl⟩
        rw [← hwo2]
        have hgo2 : (w.alloc (.cells z3 42)).grownBy wo2 none := by rw [hwo2]; repeat (first | exact hg2.out | assumption | apply grown_alloc)
        have Hgo2 := Lib.hid hgo2
        have hB3 := hf2.code
        clear hwo2 hgo2 e0 e1 hblk hsz hne0 hbne2
        go_loopw [52] (fun s8 wi => ∃ k3 : Nat, k3 ≤ y.code.length ∧ s8 = .int .i64 k3 ∧ Hid ((w.alloc (.cells z3 42)).grownBy wi none) ∧ Hid (∀ j, j < k3 → ∀ z, y.code[j]? = some z → bnC k k2 j z = none)) (fun s8 _ => y.code.length - (intOf s8).toNat)
        case atStart => exact ⟨0, Nat.zero_le _, rfl, Hgo2.out, below_zero⟩
        case round =>
         obtain ⟨k3, hkl3, rfl, hg3, hP3⟩ := hrel
         have hsz := size_w0 hg3.out
         have hne0 : w.heap.size ≠ wr.heap.size := by omega
         have hblk := blk_w0 hg3.out
         have hb := grown_w0 hg3.out
         by_cases hl3 : k3 < y.code.length
         ·obtain ⟨z, b3, off3, hz, rfl, hbB3, hr3⟩ := hB3.at_ hl3
          obtain ⟨A4, d4, A5, d5, hf3, m4, m5, e0, e1, e2, e3, e4, e5, e6, e7⟩ := insR_open hr3
          have hb3' : b3 < w.heap.size := by omega
          have hbne3 : b3 ≠ wr.heap.size := by omega
          replace e0 := cur hb hb3' e0
          replace e1 := cur hb hb3' e1
          replace e2 := cur hb hb3' e2
          replace e3 := cur hb hb3' e3
          replace e4 := cur hb hb3' e4
          replace e5 := cur hb hb3' e5
          replace e6 := cur hb hb3' e6
          replace e7 := cur hb hb3' e7
          have Hz := Lib.hid hz
          clear hz hr3
          obtain ⟨hb1, hb2⟩ := blk_facts hblk
          clear hblk
          have hmb3 := (hb.block mb hml).trans hmb
          have hml3 := Nat.lt_of_lt_of_le hml hb.size
          have hlkA := run_shape (w := (wr.alloc (.cells #[.int .u8 z.op, .string ⟨z.dst.toArray⟩, .string ⟨z.a.toArray⟩, .string ⟨z.b.toArray⟩, .int .i64 z.n, .string ⟨z.fn.toArray⟩, .slice A4 z.args.length d4, .slice A5 z.labels.length d5] 38)).drew) (seen_alloc hmb3 _) z.op
          have hlkB := fun o => run_shape (w := ((wr.alloc (.cells #[.int .u8 z.op, .string ⟨z.dst.toArray⟩, .string ⟨z.a.toArray⟩, .string ⟨z.b.toArray⟩, .int .i64 z.n, .string ⟨z.fn.toArray⟩, .slice A4 z.args.length d4, .slice A5 z.labels.length d5] 38)).alloc o).drew) (seen_alloc (seen_alloc hmb3 _) _) z.op
          have hwl3 : wb < wr.heap.size := by omega
          have c1 := cur hb hlt c1w
          rw [hvm] at c1
          have Hb := Lib.hid hb
          unfold shpV at hlkA hlkB
          clear hb hmb3
          go_upto_region 14 with (fail)
          go_region
          clear hlkA hlkB
          go_upto_region 15 with (fail)
          obtain ⟨wx0, hwx0⟩ : ∃ wx0 : World, wx0 = ((wr.alloc (.cells #[.int .u8 z.op, .string ⟨z.dst.toArray⟩, .string ⟨z.a.toArray⟩, .string ⟨z.b.toArray⟩, .int .i64 z.n, .string ⟨z.fn.toArray⟩, .slice A4 z.args.length d4, .slice A5 z.labels.length d5] 38)).alloc (.cells #[.bool (shp0 z.op).dst, .bool (shp0 z.op).a, .bool (shp0 z.op).b, .bool (shp0 z.op).n, .bool (shp0 z.op).fn, .bool (shp0 z.op).args, .bool (shp0 z.op).labels] 210)).drew := ⟨_, rfl⟩
          obtain ⟨gx, hgx⟩ : ∃ gx, gx = wr.heap.size := ⟨_, rfl⟩
          obtain ⟨gs, hgs⟩ : ∃ gs, gs = wr.heap.size + 1 := ⟨_, rfl⟩
          rw [← hwx0, ← hgs, ← hgx]
          have HX : Hid (BnX (w.alloc (.cells z3 42)) gx gs #[.int .u8 z.op, .string ⟨z.dst.toArray⟩, .string ⟨z.a.toArray⟩, .string ⟨z.b.toArray⟩, .int .i64 z.n, .string ⟨z.fn.toArray⟩, .slice A4 z.args.length d4, .slice A5 z.labels.length d5]
            #[.bool (shp0 z.op).dst, .bool (shp0 z.op).a, .bool (shp0 z.op).b, .bool (shp0 z.op).n, .bool (shp0 z.op).fn, .bool (shp0 z.op).args, .bool (shp0 z.op).labels] wx0) := by
           rw [hwx0, hgx, hgs]
           have h1 := World.alloc_heap_new wr (.cells #[.int .u8 z.op, .string ⟨z.dst.toArray⟩, .string ⟨z.a.toArray⟩, .string ⟨z.b.toArray⟩, .int .i64 z.n, .string ⟨z.fn.toArray⟩, .slice A4 z.args.length d4, .slice A5 z.labels.length d5] 38)
           have h2 := World.alloc_heap_new (wr.alloc (.cells #[.int .u8 z.op, .string ⟨z.dst.toArray⟩, .string ⟨z.a.toArray⟩, .string ⟨z.b.toArray⟩, .int .i64 z.n, .string ⟨z.fn.toArray⟩, .slice A4 z.args.length d4, .slice A5 z.labels.length d5] 38)) (.cells #[.bool (shp0 z.op).dst, .bool (shp0 z.op).a, .bool (shp0 z.op).b, .bool (shp0 z.op).n, .bool (shp0 z.op).fn, .bool (shp0 z.op).args, .bool (shp0 z.op).labels] 210)
           rw [World.size_alloc] at h2
           exact ⟨seen_alloc h1 _, h2, grown_drew (grown_alloc (grown_alloc hg3.out _) _)⟩
          have hgw : w.heap.size < gx := by omega
          have hi3 := hf3
          have Hi3 := Lib.hid hi3
          clear hwx0 hgx hgs hb1 hb2 hsz hne0 hbne3 e0 e1 e2 e3 e4 e5 e6 e7 c1 hwl3 hml3 hi3
          go_cut [11] (fun s11 wx => s11 = .bool (wr1 z) ∧ Hid (BnX (w.alloc (.cells z3 42)) gx gs #[.int .u8 z.op, .string ⟨z.dst.toArray⟩, .string ⟨z.a.toArray⟩, .string ⟨z.b.toArray⟩, .int .i64 z.n, .string ⟨z.fn.toArray⟩, .slice A4 z.args.length d4, .slice A5 z.labels.length d5]
            #[.bool (shp0 z.op).dst, .bool (shp0 z.op).a, .bool (shp0 z.op).b, .bool (shp0 z.op).n, .bool (shp0 z.op).fn, .bool (shp0 z.op).args, .bool (shp0 z.op).labels] wx))
          case first =>
           have hX := HX.out
           obtain ⟨k1, k2⟩ := blk_facts hX.x
           obtain ⟨k3, k4⟩ := blk_facts hX.s
           clear k2 k4
           have hbD := fun w => bad_one false z.dst w Hi3.out.dst
           have hbF := fun w => bad_one false z.fn w Hi3.out.fn
           have hbA := fun w => bad_one true z.a w Hi3.out.a
           have hbB := fun w => bad_one true z.b w Hi3.out.b
           have hsc := shp_cases z.op
           simp only [List.mem_cons, Prod.mk.injEq, List.not_mem_nil, or_false] at hsc
           rcases hsc with ⟨q1, q2, q3, q4⟩ | ⟨q1, q2, q3, q4⟩ | ⟨q1, q2, q3, q4⟩ | ⟨q1, q2, q3, q4⟩ | ⟨q1, q2, q3, q4⟩ | ⟨q1, q2, q3, q4⟩
           ·cases rdst : bad1 false z.dst with
            | true =>
             rw [rdst] at hbD
             have HR := Lib.hid (show wr1 z = true by simp [wr1, q1, q2, q3, q4, rdst])
             clear rdst
             go_wp2_with (first | (go_at_call 162; (first | (with_reducible refine (hbD _).mono ?_) | (with_reducible refine (hbF _).mono ?_) | (with_reducible refine (hbA _).mono ?_) | (with_reducible refine (hbB _).mono ?_)); rintro e w' ⟨rfl, hb9⟩; replace hX := hX.step hb9; obtain ⟨k1, k2⟩ := blk_facts hX.x; obtain ⟨k3, k4⟩ := blk_facts hX.s; clear k2 k4))
             go_meet
             exact ⟨by rw [HR.out]; try rfl, hX⟩
            | false =>
             rw [rdst] at hbD
             have HR := Lib.hid (show wr1 z = false by simp [wr1, q1, q2, q3, q4, rdst])
             clear rdst
             go_wp2_with (first | (go_at_call 162; (first | (with_reducible refine (hbD _).mono ?_) | (with_reducible refine (hbF _).mono ?_) | (with_reducible refine (hbA _).mono ?_) | (with_reducible refine (hbB _).mono ?_)); rintro e w' ⟨rfl, hb9⟩; replace hX := hX.step hb9; obtain ⟨k1, k2⟩ := blk_facts hX.x; obtain ⟨k3, k4⟩ := blk_facts hX.s; clear k2 k4))
             go_meet
             exact ⟨by rw [HR.out]; try rfl, hX⟩
           ·cases rdst : bad1 false z.dst with
            | true =>
             rw [rdst] at hbD
             have HR := Lib.hid (show wr1 z = true by simp [wr1, q1, q2, q3, q4, rdst])
             clear rdst
             go_wp2_with (first | (go_at_call 162; (first | (with_reducible refine (hbD _).mono ?_) | (with_reducible refine (hbF _).mono ?_) | (with_reducible refine (hbA _).mono ?_) | (with_reducible refine (hbB _).mono ?_)); rintro e w' ⟨rfl, hb9⟩; replace hX := hX.step hb9; obtain ⟨k1, k2⟩ := blk_facts hX.x; obtain ⟨k3, k4⟩ := blk_facts hX.s; clear k2 k4))
             go_meet
             exact ⟨by rw [HR.out]; try rfl, hX⟩
            | false =>
             rw [rdst] at hbD
             cases rfn : bad1 false z.fn with
             | true =>
              rw [rfn] at hbF
              have HR := Lib.hid (show wr1 z = true by simp [wr1, q1, q2, q3, q4, rdst, rfn])
              clear rdst rfn
              go_wp2_with (first | (go_at_call 162; (first | (with_reducible refine (hbD _).mono ?_) | (with_reducible refine (hbF _).mono ?_) | (with_reducible refine (hbA _).mono ?_) | (with_reducible refine (hbB _).mono ?_)); rintro e w' ⟨rfl, hb9⟩; replace hX := hX.step hb9; obtain ⟨k1, k2⟩ := blk_facts hX.x; obtain ⟨k3, k4⟩ := blk_facts hX.s; clear k2 k4))
              go_meet
              exact ⟨by rw [HR.out]; try rfl, hX⟩
             | false =>
              rw [rfn] at hbF
              have HR := Lib.hid (show wr1 z = false by simp [wr1, q1, q2, q3, q4, rdst, rfn])
              clear rdst rfn
              go_wp2_with (first | (go_at_call 162; (first | (with_reducible refine (hbD _).mono ?_) | (with_reducible refine (hbF _).mono ?_) | (with_reducible refine (hbA _).mono ?_) | (with_reducible refine (hbB _).mono ?_)); rintro e w' ⟨rfl, hb9⟩; replace hX := hX.step hb9; obtain ⟨k1, k2⟩ := blk_facts hX.x; obtain ⟨k3, k4⟩ := blk_facts hX.s; clear k2 k4))
              go_meet
              exact ⟨by rw [HR.out]; try rfl, hX⟩
           ·cases rdst : bad1 false z.dst with
            | true =>
             rw [rdst] at hbD
             have HR := Lib.hid (show wr1 z = true by simp [wr1, q1, q2, q3, q4, rdst])
             clear rdst
             go_wp2_with (first | (go_at_call 162; (first | (with_reducible refine (hbD _).mono ?_) | (with_reducible refine (hbF _).mono ?_) | (with_reducible refine (hbA _).mono ?_) | (with_reducible refine (hbB _).mono ?_)); rintro e w' ⟨rfl, hb9⟩; replace hX := hX.step hb9; obtain ⟨k1, k2⟩ := blk_facts hX.x; obtain ⟨k3, k4⟩ := blk_facts hX.s; clear k2 k4))
             go_meet
             exact ⟨by rw [HR.out]; try rfl, hX⟩
            | false =>
             rw [rdst] at hbD
             cases ra : bad1 true z.a with
             | true =>
              rw [ra] at hbA
              have HR := Lib.hid (show wr1 z = true by simp [wr1, q1, q2, q3, q4, rdst, ra])
              clear rdst ra
              go_wp2_with (first | (go_at_call 162; (first | (with_reducible refine (hbD _).mono ?_) | (with_reducible refine (hbF _).mono ?_) | (with_reducible refine (hbA _).mono ?_) | (with_reducible refine (hbB _).mono ?_)); rintro e w' ⟨rfl, hb9⟩; replace hX := hX.step hb9; obtain ⟨k1, k2⟩ := blk_facts hX.x; obtain ⟨k3, k4⟩ := blk_facts hX.s; clear k2 k4))
              go_meet
              exact ⟨by rw [HR.out]; try rfl, hX⟩
             | false =>
              rw [ra] at hbA
              have HR := Lib.hid (show wr1 z = false by simp [wr1, q1, q2, q3, q4, rdst, ra])
              clear rdst ra
              go_wp2_with (first | (go_at_call 162; (first | (with_reducible refine (hbD _).mono ?_) | (with_reducible refine (hbF _).mono ?_) | (with_reducible refine (hbA _).mono ?_) | (with_reducible refine (hbB _).mono ?_)); rintro e w' ⟨rfl, hb9⟩; replace hX := hX.step hb9; obtain ⟨k1, k2⟩ := blk_facts hX.x; obtain ⟨k3, k4⟩ := blk_facts hX.s; clear k2 k4))
              go_meet
              exact ⟨by rw [HR.out]; try rfl, hX⟩
           ·cases ra : bad1 true z.a with
            | true =>
             rw [ra] at hbA
             have HR := Lib.hid (show wr1 z = true by simp [wr1, q1, q2, q3, q4, ra])
             clear ra
             go_wp2_with (first | (go_at_call 162; (first | (with_reducible refine (hbD _).mono ?_) | (with_reducible refine (hbF _).mono ?_) | (with_reducible refine (hbA _).mono ?_) | (with_reducible refine (hbB _).mono ?_)); rintro e w' ⟨rfl, hb9⟩; replace hX := hX.step hb9; obtain ⟨k1, k2⟩ := blk_facts hX.x; obtain ⟨k3, k4⟩ := blk_facts hX.s; clear k2 k4))
             go_meet
             exact ⟨by rw [HR.out]; try rfl, hX⟩
            | false =>
             rw [ra] at hbA
             cases rb : bad1 true z.b with
             | true =>
              rw [rb] at hbB
              have HR := Lib.hid (show wr1 z = true by simp [wr1, q1, q2, q3, q4, ra, rb])
              clear ra rb
              go_wp2_with (first | (go_at_call 162; (first | (with_reducible refine (hbD _).mono ?_) | (with_reducible refine (hbF _).mono ?_) | (with_reducible refine (hbA _).mono ?_) | (with_reducible refine (hbB _).mono ?_)); rintro e w' ⟨rfl, hb9⟩; replace hX := hX.step hb9; obtain ⟨k1, k2⟩ := blk_facts hX.x; obtain ⟨k3, k4⟩ := blk_facts hX.s; clear k2 k4))
              go_meet
              exact ⟨by rw [HR.out]; try rfl, hX⟩
             | false =>
              rw [rb] at hbB
              have HR := Lib.hid (show wr1 z = false by simp [wr1, q1, q2, q3, q4, ra, rb])
              clear ra rb
              go_wp2_with (first | (go_at_call 162; (first | (with_reducible refine (hbD _).mono ?_) | (with_reducible refine (hbF _).mono ?_) | (with_reducible refine (hbA _).mono ?_) | (with_reducible refine (hbB _).mono ?_)); rintro e w' ⟨rfl, hb9⟩; replace hX := hX.step hb9; obtain ⟨k1, k2⟩ := blk_facts hX.x; obtain ⟨k3, k4⟩ := blk_facts hX.s; clear k2 k4))
              go_meet
              exact ⟨by rw [HR.out]; try rfl, hX⟩
           ·have HR := Lib.hid (show wr1 z = false by simp [wr1, q1, q2, q3, q4])
            go_wp2_with (first | (go_at_call 162; (first | (with_reducible refine (hbD _).mono ?_) | (with_reducible refine (hbF _).mono ?_) | (with_reducible refine (hbA _).mono ?_) | (with_reducible refine (hbB _).mono ?_)); rintro e w' ⟨rfl, hb9⟩; replace hX := hX.step hb9; obtain ⟨k1, k2⟩ := blk_facts hX.x; obtain ⟨k3, k4⟩ := blk_facts hX.s; clear k2 k4))
            go_meet
            exact ⟨by rw [HR.out]; try rfl, hX⟩
           ·cases ra : bad1 true z.a with
            | true =>
             rw [ra] at hbA
             have HR := Lib.hid (show wr1 z = true by simp [wr1, q1, q2, q3, q4, ra])
             clear ra
             go_wp2_with (first | (go_at_call 162; (first | (with_reducible refine (hbD _).mono ?_) | (with_reducible refine (hbF _).mono ?_) | (with_reducible refine (hbA _).mono ?_) | (with_reducible refine (hbB _).mono ?_)); rintro e w' ⟨rfl, hb9⟩; replace hX := hX.step hb9; obtain ⟨k1, k2⟩ := blk_facts hX.x; obtain ⟨k3, k4⟩ := blk_facts hX.s; clear k2 k4))
             go_meet
             exact ⟨by rw [HR.out]; try rfl, hX⟩
            | false =>
             rw [ra] at hbA
             have HR := Lib.hid (show wr1 z = false by simp [wr1, q1, q2, q3, q4, ra])
             clear ra
             go_wp2_with (first | (go_at_call 162; (first | (with_reducible refine (hbD _).mono ?_) | (with_reducible refine (hbF _).mono ?_) | (with_reducible refine (hbA _).mono ?_) | (with_reducible refine (hbB _).mono ?_)); rintro e w' ⟨rfl, hb9⟩; replace hX := hX.step hb9; obtain ⟨k1, k2⟩ := blk_facts hX.x; obtain ⟨k3, k4⟩ := blk_facts hX.s; clear k2 k4))
             go_meet
             exact ⟨by rw [HR.out]; try rfl, hX⟩
          case rest =>
           obtain ⟨rfl, hX0⟩ := hcut
           go_upto_region 16 with (fail)
           go_cut [11] (fun s11 wx => s11 = .bool (wrongName z) ∧ Hid (BnX (w.alloc (.cells z3 42)) gx gs #[.int .u8 z.op, .string ⟨z.dst.toArray⟩, .string ⟨z.a.toArray⟩, .string ⟨z.b.toArray⟩, .int .i64 z.n, .string ⟨z.fn.toArray⟩, .slice A4 z.args.length d4, .slice A5 z.labels.length d5]
            #[.bool (shp0 z.op).dst, .bool (shp0 z.op).a, .bool (shp0 z.op).b, .bool (shp0 z.op).n, .bool (shp0 z.op).fn, .bool (shp0 z.op).args, .bool (shp0 z.op).labels] wx))
           case first =>
            have hX := hX0.out
            obtain ⟨k1, k2⟩ := blk_facts hX.x
            obtain ⟨k3, k4⟩ := blk_facts hX.s
            clear k2 k4
            have hbA := fun W (h : Below w.heap.size w W) => bad_any true (.slice A4 z.args.length d4) z.args B W (Nat.le_trans hB h.size) (Hi3.out.args.below strR.keeps h hB)
            have hbL := fun W (h : Below w.heap.size w W) => bad_any false (.slice A5 z.labels.length d5) z.labels B W (Nat.le_trans hB h.size) (Hi3.out.labels.below strR.keeps h hB)
            have hcA := fun W (h : Below w.heap.size w W) => contains_str (.slice A4 z.args.length d4) z.args [] W B (Hi3.out.args.below strR.keeps h hB)
            have hcL := fun W (h : Below w.heap.size w W) => contains_str (.slice A5 z.labels.length d5) z.labels [] W B (Hi3.out.labels.below strR.keeps h hB)
            cases q1 : wr1 z with
            | true =>
             have HR := Lib.hid (show wrongName z = true by rw [wrongName_eq, q1]; rfl)
             go_wp2_with fail
             go_meet
             exact ⟨by rw [HR.out]; try rfl, hX⟩
            | false =>
             cases qa : (shp0 z.op).args with
             | true =>
              cases ql : (shp0 z.op).labels with
              | true =>
               cases ra : badL true z.args with
               | true =>
                rw [ra] at hbA
                have HR := Lib.hid (show wrongName z = true by rw [wrongName_eq, q1, qa, ql, ra]; rfl)
                clear ra
                go_wp2_with (first | (go_at_call 162; (first | (with_reducible refine (hbA _ hX.low).mono ?_) | (with_reducible refine (hbL _ hX.low).mono ?_)); rintro e w' ⟨rfl, hb9⟩; replace hX := hX.step hb9; obtain ⟨k1, k2⟩ := blk_facts hX.x; obtain ⟨k3, k4⟩ := blk_facts hX.s; clear k2 k4) | (go_at_call 138; (first | (with_reducible refine (hcA _ hX.low).mono ?_) | (with_reducible refine (hcL _ hX.low).mono ?_)); rintro e w' ⟨rfl, rfl⟩))
                go_meet
                exact ⟨by rw [HR.out]; try rfl, hX⟩
               | false =>
                rw [ra] at hbA
                cases ca : z.args.contains [] with
                | true =>
                 rw [ca] at hcA
                 have HR := Lib.hid (show wrongName z = true by rw [wrongName_eq, q1, qa, ql, ra, ca]; rfl)
                 clear ra ca
                 go_wp2_with (first | (go_at_call 162; (first | (with_reducible refine (hbA _ hX.low).mono ?_) | (with_reducible refine (hbL _ hX.low).mono ?_)); rintro e w' ⟨rfl, hb9⟩; replace hX := hX.step hb9; obtain ⟨k1, k2⟩ := blk_facts hX.x; obtain ⟨k3, k4⟩ := blk_facts hX.s; clear k2 k4) | (go_at_call 138; (first | (with_reducible refine (hcA _ hX.low).mono ?_) | (with_reducible refine (hcL _ hX.low).mono ?_)); rintro e w' ⟨rfl, rfl⟩))
                 go_meet
                 exact ⟨by rw [HR.out]; try rfl, hX⟩
                | false =>
                 rw [ca] at hcA
                 cases rl : badL false z.labels with
                 | true =>
                  rw [rl] at hbL
                  have HR := Lib.hid (show wrongName z = true by rw [wrongName_eq, q1, qa, ql, ra, ca, rl]; rfl)
                  clear ra ca rl
                  go_wp2_with (first | (go_at_call 162; (first | (with_reducible refine (hbA _ hX.low).mono ?_) | (with_reducible refine (hbL _ hX.low).mono ?_)); rintro e w' ⟨rfl, hb9⟩; replace hX := hX.step hb9; obtain ⟨k1, k2⟩ := blk_facts hX.x; obtain ⟨k3, k4⟩ := blk_facts hX.s; clear k2 k4) | (go_at_call 138; (first | (with_reducible refine (hcA _ hX.low).mono ?_) | (with_reducible refine (hcL _ hX.low).mono ?_)); rintro e w' ⟨rfl, rfl⟩))
                  go_meet
                  exact ⟨by rw [HR.out]; try rfl, hX⟩
                 | false =>
                  rw [rl] at hbL
                  cases cl : z.labels.contains [] with
                  | true =>
                   rw [cl] at hcL
                   have HR := Lib.hid (show wrongName z = true by rw [wrongName_eq, q1, qa, ql, ra, ca, rl, cl]; rfl)
                   clear ra ca rl cl
                   go_wp2_with (first | (go_at_call 162; (first | (with_reducible refine (hbA _ hX.low).mono ?_) | (with_reducible refine (hbL _ hX.low).mono ?_)); rintro e w' ⟨rfl, hb9⟩; replace hX := hX.step hb9; obtain ⟨k1, k2⟩ := blk_facts hX.x; obtain ⟨k3, k4⟩ := blk_facts hX.s; clear k2 k4) | (go_at_call 138; (first | (with_reducible refine (hcA _ hX.low).mono ?_) | (with_reducible refine (hcL _ hX.low).mono ?_)); rintro e w' ⟨rfl, rfl⟩))
                   go_meet
                   exact ⟨by rw [HR.out]; try rfl, hX⟩
                  | false =>
                   rw [cl] at hcL
                   have HR := Lib.hid (show wrongName z = false by rw [wrongName_eq, q1, qa, ql, ra, ca, rl, cl]; rfl)
                   clear ra ca rl cl
                   go_wp2_with (first | (go_at_call 162; (first | (with_reducible refine (hbA _ hX.low).mono ?_) | (with_reducible refine (hbL _ hX.low).mono ?_)); rintro e w' ⟨rfl, hb9⟩; replace hX := hX.step hb9; obtain ⟨k1, k2⟩ := blk_facts hX.x; obtain ⟨k3, k4⟩ := blk_facts hX.s; clear k2 k4) | (go_at_call 138; (first | (with_reducible refine (hcA _ hX.low).mono ?_) | (with_reducible refine (hcL _ hX.low).mono ?_)); rintro e w' ⟨rfl, rfl⟩))
                   go_meet
                   exact ⟨by rw [HR.out]; try rfl, hX⟩
              | false =>
               cases ra : badL true z.args with
               | true =>
                rw [ra] at hbA
                have HR := Lib.hid (show wrongName z = true by rw [wrongName_eq, q1, qa, ql, ra]; rfl)
                clear ra
                go_wp2_with (first | (go_at_call 162; (first | (with_reducible refine (hbA _ hX.low).mono ?_) | (with_reducible refine (hbL _ hX.low).mono ?_)); rintro e w' ⟨rfl, hb9⟩; replace hX := hX.step hb9; obtain ⟨k1, k2⟩ := blk_facts hX.x; obtain ⟨k3, k4⟩ := blk_facts hX.s; clear k2 k4) | (go_at_call 138; (first | (with_reducible refine (hcA _ hX.low).mono ?_) | (with_reducible refine (hcL _ hX.low).mono ?_)); rintro e w' ⟨rfl, rfl⟩))
                go_meet
                exact ⟨by rw [HR.out]; try rfl, hX⟩
               | false =>
                rw [ra] at hbA
                cases ca : z.args.contains [] with
                | true =>
                 rw [ca] at hcA
                 have HR := Lib.hid (show wrongName z = true by rw [wrongName_eq, q1, qa, ql, ra, ca]; rfl)
                 clear ra ca
                 go_wp2_with (first | (go_at_call 162; (first | (with_reducible refine (hbA _ hX.low).mono ?_) | (with_reducible refine (hbL _ hX.low).mono ?_)); rintro e w' ⟨rfl, hb9⟩; replace hX := hX.step hb9; obtain ⟨k1, k2⟩ := blk_facts hX.x; obtain ⟨k3, k4⟩ := blk_facts hX.s; clear k2 k4) | (go_at_call 138; (first | (with_reducible refine (hcA _ hX.low).mono ?_) | (with_reducible refine (hcL _ hX.low).mono ?_)); rintro e w' ⟨rfl, rfl⟩))
                 go_meet
                 exact ⟨by rw [HR.out]; try rfl, hX⟩
                | false =>
                 rw [ca] at hcA
                 have HR := Lib.hid (show wrongName z = false by rw [wrongName_eq, q1, qa, ql, ra, ca]; rfl)
                 clear ra ca
                 go_wp2_with (first | (go_at_call 162; (first | (with_reducible refine (hbA _ hX.low).mono ?_) | (with_reducible refine (hbL _ hX.low).mono ?_)); rintro e w' ⟨rfl, hb9⟩; replace hX := hX.step hb9; obtain ⟨k1, k2⟩ := blk_facts hX.x; obtain ⟨k3, k4⟩ := blk_facts hX.s; clear k2 k4) | (go_at_call 138; (first | (with_reducible refine (hcA _ hX.low).mono ?_) | (with_reducible refine (hcL _ hX.low).mono ?_)); rintro e w' ⟨rfl, rfl⟩))
                 go_meet
                 exact ⟨by rw [HR.out]; try rfl, hX⟩
             | false =>
              cases ql : (shp0 z.op).labels with
              | true =>
               cases rl : badL false z.labels with
               | true =>
                rw [rl] at hbL
                have HR := Lib.hid (show wrongName z = true by rw [wrongName_eq, q1, qa, ql, rl]; rfl)
                clear rl
                go_wp2_with (first | (go_at_call 162; (first | (with_reducible refine (hbA _ hX.low).mono ?_) | (with_reducible refine (hbL _ hX.low).mono ?_)); rintro e w' ⟨rfl, hb9⟩; replace hX := hX.step hb9; obtain ⟨k1, k2⟩ := blk_facts hX.x; obtain ⟨k3, k4⟩ := blk_facts hX.s; clear k2 k4) | (go_at_call 138; (first | (with_reducible refine (hcA _ hX.low).mono ?_) | (with_reducible refine (hcL _ hX.low).mono ?_)); rintro e w' ⟨rfl, rfl⟩))
                go_meet
                exact ⟨by rw [HR.out]; try rfl, hX⟩
               | false =>
                rw [rl] at hbL
                cases cl : z.labels.contains [] with
                | true =>
                 rw [cl] at hcL
                 have HR := Lib.hid (show wrongName z = true by rw [wrongName_eq, q1, qa, ql, rl, cl]; rfl)
                 clear rl cl
                 go_wp2_with (first | (go_at_call 162; (first | (with_reducible refine (hbA _ hX.low).mono ?_) | (with_reducible refine (hbL _ hX.low).mono ?_)); rintro e w' ⟨rfl, hb9⟩; replace hX := hX.step hb9; obtain ⟨k1, k2⟩ := blk_facts hX.x; obtain ⟨k3, k4⟩ := blk_facts hX.s; clear k2 k4) | (go_at_call 138; (first | (with_reducible refine (hcA _ hX.low).mono ?_) | (with_reducible refine (hcL _ hX.low).mono ?_)); rintro e w' ⟨rfl, rfl⟩))
                 go_meet
                 exact ⟨by rw [HR.out]; try rfl, hX⟩
                | false =>
                 rw [cl] at hcL
                 have HR := Lib.hid (show wrongName z = false by rw [wrongName_eq, q1, qa, ql, rl, cl]; rfl)
                 clear rl cl
                 go_wp2_with (first | (go_at_call 162; (first | (with_reducible refine (hbA _ hX.low).mono ?_) | (with_reducible refine (hbL _ hX.low).mono ?_)); rintro e w' ⟨rfl, hb9⟩; replace hX := hX.step hb9; obtain ⟨k1, k2⟩ := blk_facts hX.x; obtain ⟨k3, k4⟩ := blk_facts hX.s; clear k2 k4) | (go_at_call 138; (first | (with_reducible refine (hcA _ hX.low).mono ?_) | (with_reducible refine (hcL _ hX.low).mono ?_)); rintro e w' ⟨rfl, rfl⟩))
                 go_meet
                 exact ⟨by rw [HR.out]; try rfl, hX⟩
              | false =>
               have HR := Lib.hid (show wrongName z = false by rw [wrongName_eq, q1, qa, ql]; rfl)
               skip
               go_wp2_with (first | (go_at_call 162; (first | (with_reducible refine (hbA _ hX.low).mono ?_) | (with_reducible refine (hbL _ hX.low).mono ?_)); rintro e w' ⟨rfl, hb9⟩; replace hX := hX.step hb9; obtain ⟨k1, k2⟩ := blk_facts hX.x; obtain ⟨k3, k4⟩ := blk_facts hX.s; clear k2 k4) | (go_at_call 138; (first | (with_reducible refine (hcA _ hX.low).mono ?_) | (with_reducible refine (hcL _ hX.low).mono ?_)); rintro e w' ⟨rfl, rfl⟩))
               go_meet
               exact ⟨by rw [HR.out]; try rfl, hX⟩
           case rest =>
            obtain ⟨rfl, hX1⟩ := hcut
            cases hw : wrongName z with
            | true =>
             have HC := Lib.hid (show bnC k k2 k3 z = some (k, k2, k3) by rw [bnC, if_pos hw])
             obtain ⟨hb1, hb2⟩ := blk_facts (blk_w0 hX1.out.g)
             clear hw
             go_wp2_with fail
             refine bodyPost_ret (v := ptV (some (k, k2, k3))) (by simp [results, Tryz.results114, go_sem, ptV, ptC, hb1]) rfl ⟨?_, ?_⟩
             ·rw [rBadName, firstOf_some hP.out Hx.out (HF.out.trans (firstOf_some hP2.out Hy.out (HB.out.trans (firstOf_some hP3.out Hz.out HC.out))))]
             ·repeat (first | exact grown_of_alloc hX1.out.g | refine grown_set ?_ (Nat.le_refl _) _)
            | false =>
             have HC := Lib.hid (show bnC k k2 k3 z = none by rw [bnC, if_neg (by rw [hw]; simp)])
             clear hw
             go_wp2_with fail
             go_roundw
             case rel => exact ⟨k3 + 1, by omega, by go_num, hX1.out.g, below_succ Hz.out hP3.out HC.out⟩
             case measure => simp [intOf]; omega
         ·have HBn := Lib.hid (HB.out.trans (firstOf_none (below_all hl3 hP3.out)))
          clear hblk
          go_wp2_with fail
          go_roundw
          case rel => exact ⟨k2 + 1, by omega, by go_num, hg3.out, below_succ Hy.out hP2.out HBn.out⟩
          case measure => simp [intOf]; omega
      ·have HFn := Lib.hid (HF.out.trans (firstOf_none (below_all hl2 hP2.out)))
       clear hblk
       go_wp2_with fail
       go_roundw
       case rel => exact ⟨k + 1, by omega, by go_num, hg2.out, below_succ Hx.out hP.out HFn.out⟩
       case measure => simp [intOf]; omega
  ·obtain ⟨hb1, hb2⟩ := blk_facts hblk
   go_wp2_with fail
   refine bodyPost_ret (v := ptV none) (by simp [results, Tryz.results114, go_sem, ptV, ptC, hb1]) rfl ⟨?_, ?_⟩
   ·rw [rBadName, firstOf_none (below_all hl hP.out)]
   ·repeat (first | exact grown_of_alloc hg.out | apply grown_alloc | refine grown_drewN ?_ _ | refine grown_set ?_ (Nat.le_refl _) _)
end Go.Proofs.YtiheiaaifdjpeaaGreat

/- Method Instr of a map of package sites, at an instruction that there is. Condition: the map lies in memory. -/
import Derived.Test.YtiheiaaifdjpeaaGreatDMet
set_option linter.unusedVariables false
set_option linter.unusedSimpArgs false
set_option linter.unusedSectionVars false
set_option maxHeartbeats 8000000
set_option maxRecDepth 100000
namespace Go.Proofs.YtiheiaaifdjpeaaGreat
open Lib(hid)
open Go.RowKit Go.Shelf
variable {lo : Nat} {w : World} {m : Nat} {p : GProg}
def insV (z : GIns) (va vl : Value) : Value := .agg #[.int .u8 z.op, .string ⟨z.dst.toArray⟩, .string ⟨z.a.toArray⟩, .string ⟨z.b.toArray⟩, .int .i64 z.n, .string ⟨z.fn.toArray⟩, va, vl]
theorem Yu {g : Nat} {X Y : World} (h : Chg (fun n => n = g) X Y) (i : Nat) (v : Value) : Chg (fun n => n = g) X (Y.setCell ⟨g, i, none⟩ v) :=
 h.trans (Chg.set (Q := fun n => n = g) Y (p := ⟨g, i, none⟩) rfl v) (fun _ _ e => e)
theorem chg8 (g : Nat) (X : World) (a0 a1 a2 a3 a4 a5 a6 a7 : Value) : Chg (fun n => n = g) X ((((((((X.setCell ⟨g, 0, none⟩ a0).setCell ⟨g, 1, none⟩ a1).setCell ⟨g, 2, none⟩ a2).setCell ⟨g, 3, none⟩ a3).setCell ⟨g, 4, none⟩ a4).setCell ⟨g, 5, none⟩ a5).setCell ⟨g, 6, none⟩ a6).setCell ⟨g, 7, none⟩ a7) := by
 exact Yu (Yu (Yu (Yu (Yu (Yu (Yu (Yu (Chg.refl _ _) 0 a0) 1 a1) 2 a2) 3 a3) 4 a4) 5 a5) 6 a6) 7 a7
theorem Zfk (h : MapL lo w m p) {f b k : Nat} {x : GFun} {y : GBlk} {z : GIns} (hf : p[f]? = some x) (hy : x.blocks[b]? = some y) (hz : y.code[k]? = some z) :
  Calls Tryz.prog 17 #[.pointer (some ⟨m, 0, none⟩), .agg #[.int .i64 f, .int .i64 b, .int .i64 k]] w fun e w' => ∃ A d A' d', e = .returned (.tuple #[insV z (.slice A z.args.length d) (.slice A' z.labels.length d'), .bool true]) ∧
   InsS w.heap.size w' z (.slice A z.args.length d) (.slice A' z.labels.length d') ∧ w.grownBy w' none := by
 have hfl := (List.getElem?_eq_some_iff.1 hf).1;have hbl := (List.getElem?_eq_some_iff.1 hy).1;have hkl := (List.getElem?_eq_some_iff.1 hz).1;obtain ⟨W, hW⟩ : ∃ W : World, W = (w.alloc (.cells #[.int .i64 f, .int .i64 b, .int .i64 k] 42)).alloc (.cells #[.int .u8 0, .string ⟨#[]⟩, .string ⟨#[]⟩, .string ⟨#[]⟩, .int .i64 0, .string ⟨#[]⟩, .slice none 0 0, .slice none 0 0] 38) := ⟨_, rfl⟩
 have hgW : w.grownBy W none := by rw [hW]; exact Zd (World.grownBy_alloc w _ none) _
 have hN := Qf (h.grown hgW) f;rw [decide_eq_true (show 0 ≤ (f : Int) ∧ (f : Int) < p.length by omega)] at hN;obtain ⟨A, c, vt, ft, mb, AS, cS, AO, cO, AP, cP, h⟩ := h.open_;have c0 : w.cell? ⟨m, 0, none⟩ = some (.slice A p.length c) := (Za h.blk).1 0;have hml := Ze h.blk;obtain ⟨A5, c5, e5, hl1, hl2, -, hA⟩ := h.prog.open_;obtain ⟨rfl, rfl⟩ : A5 = A ∧ c5 = c := by simp only [Value.slice.injEq] at e5; exact ⟨e5.1.symm, e5.2.2.symm⟩
 obtain ⟨x', bF, offF, hx', rfl, hbF, hr⟩ := hA.at_ hfl;obtain rfl : x = x' := by rw [hf] at hx'; injection hx'
 obtain ⟨A1, d1, A2, d2, hfa, m1, m2, e0, e1, e2⟩ := Yh hr;obtain ⟨y', bB, offB, hy', rfl, hbB, hyr⟩ := hfa.blocks.at_ hbl;obtain rfl : y = y' := by rw [hy] at hy'; injection hy'
 obtain ⟨vc, hyb, y0, y1⟩ := hyr;obtain ⟨A6, d6, rfl, o1, o2, o3, hC⟩ := hyb.code.open_;obtain ⟨z', bC, offC, hz', rfl, hbC, hzr⟩ := hC.at_ hkl;obtain rfl : z = z' := by rw [hz] at hz'; injection hz'
 obtain ⟨va, vl, hzi, z0, z1, z2, z3, z4, z5, z6, z7⟩ := hzr;obtain ⟨A7, d7, rfl, -, -, -, -⟩ := hzi.args.open_;obtain ⟨A8, d8, rfl, -, -, -, -⟩ := hzi.labels.open_;obtain ⟨b3, hb3e⟩ : ∃ b3, b3 = w.heap.size := ⟨_, rfl⟩
 obtain ⟨b4, hb4e⟩ : ∃ b4, b4 = w.heap.size + 1 := ⟨_, rfl⟩
 have hb3 : W.heap[b3]? = some (.cells #[.int .i64 f, .int .i64 b, .int .i64 k] 42 (0, 0)) := by rw [hW, hb3e]; exact Zb (World.alloc_heap_new w _) _
 have hb4 : W.heap[b4]? = some (.cells #[.int .u8 0, .string ⟨#[]⟩, .string ⟨#[]⟩, .string ⟨#[]⟩, .int .i64 0, .string ⟨#[]⟩, .slice none 0 0, .slice none 0 0] 38 (0, 0)) := by
  have := World.alloc_heap_new (w.alloc (.cells #[.int .i64 f, .int .i64 b, .int .i64 k] 42)) (.cells #[.int .u8 0, .string ⟨#[]⟩, .string ⟨#[]⟩, .string ⟨#[]⟩, .int .i64 0, .string ⟨#[]⟩, .slice none 0 0, .slice none 0 0] 38);rw [World.size_alloc] at this;rw [hW, hb4e]; exact this
 have hsW : W.heap.size = w.heap.size + 2 := by rw [hW]; simp
 have HS := hid (show ∀ W' : World, W.grownBy W' none → W'.cell? ⟨b3, 0, none⟩ = some (.int .i64 f) ∧ W'.cell? ⟨m, 0, none⟩ = some (.slice (some ⟨bF, offF, none⟩) p.length c5) ∧ W'.cell? ⟨bF, offF + f * 3, none⟩ = some (.string ⟨x.name.toArray⟩) ∧ W'.cell? ⟨bF, offF + f * 3 + 1, none⟩ = some (.slice A1 x.params.length d1) ∧ W'.cell? ⟨bF, offF + f * 3 + 2, none⟩ = some (.slice (some ⟨bB, offB, none⟩) x.blocks.length d2) from fun W' hg => by
                     have hb := Zk (Zc hgW hg)
                     exact ⟨(World.cell?_of_block (hg.block b3 (Ze hb3) (by simp))).trans ((Za hb3).1 0), cur hb hml c0, cur hb hbF e0, cur hb hbF e1, cur hb hbF e2⟩)
 have HT := hid (show ∀ W' : World, Chg (fun n => n = b4) W W' → W'.cell? ⟨b3, 1, none⟩ = some (.int .i64 b) ∧ W'.cell? ⟨b3, 2, none⟩ = some (.int .i64 k) ∧ W'.cell? ⟨bB, offB + b * 2 + 1, none⟩ = some (.slice (some ⟨bC, offC, none⟩) y.code.length d6) ∧
                     (W'.cell? ⟨bC, offC + k * 8, none⟩ = some (.int .u8 z.op) ∧ W'.cell? ⟨bC, offC + k * 8 + 1, none⟩ = some (.string ⟨z.dst.toArray⟩) ∧ W'.cell? ⟨bC, offC + k * 8 + 2, none⟩ = some (.string ⟨z.a.toArray⟩) ∧ W'.cell? ⟨bC, offC + k * 8 + 3, none⟩ = some (.string ⟨z.b.toArray⟩) ∧ W'.cell? ⟨bC, offC + k * 8 + 4, none⟩ = some (.int .i64 z.n) ∧ W'.cell? ⟨bC, offC + k * 8 + 5, none⟩ = some (.string ⟨z.fn.toArray⟩) ∧ W'.cell? ⟨bC, offC + k * 8 + 6, none⟩ = some (.slice A7 z.args.length d7) ∧ W'.cell? ⟨bC, offC + k * 8 + 7, none⟩ = some (.slice A8 z.labels.length d8)) from fun W' hg => by
                    have hc := (Chg.grown (Q := fun n => n = b4) hgW (fun r e => by cases e)).trans hg (fun _ _ e => e)
                    have hb : Below w.heap.size w W' := ⟨hc.os, hc.tape, hc.output, hc.size, fun n hn => hc.block n hn (by show ¬ n = b4; omega)⟩
                    have hn3 : ¬ b3 = b4 := by omega
                    exact ⟨(World.cell?_of_block (hg.block b3 (Ze hb3) hn3)).trans ((Za hb3).1 1), (World.cell?_of_block (hg.block b3 (Ze hb3) hn3)).trans ((Za hb3).1 2), cur hb hbB y1, cur hb hbC z0, cur hb hbC z1, cur hb hbC z2, cur hb hbC z3, cur hb hbC z4, cur hb hbC z5, cur hb hbC z6, cur hb hbC z7⟩)
 have HI := hid (show ∀ W' : World, W.grownBy W' none → InsAt W' w.heap.size z (.slice A7 z.args.length d7) (.slice A8 z.labels.length d8) from fun W' hg => hzi.below (Zk (Zc hgW hg)) (Nat.le_refl _));have HgW := hid hgW;have HsW := hid hsW;have Hb4 := hid hb4;have HbE := hid (And.intro hb3e hb4e);clear hb3e hb4e;have hd1 : ¬ ((b : Int) < 0) := by omega
 have hd2 : ¬ ((k : Int) < 0) := by omega
 obtain ⟨q3, -, -, -, -⟩ := HS.out W (World.grownBy.refl _ _);obtain ⟨r3, s3, -⟩ := HT.out W (.refl _ _);clear h hA e5 c0 hml hr hfa e0 e1 e2 hyb y0 y1 hC hzi z0 z1 z2 z3 z4 z5 z6 z7 hb3 hb4 hsW hgW hx' hy' hz' hf hy hz m1 m2 o1;go_enter Tryz.func17, Tryz.ntmps17;go_upto_region 1 with (fail)
 rw [← hW, ← HbE.out.2, ← HbE.out.1];clear hW;go_upto_region 3 with (first | (go_at_call 62; refine hN.mono ?_; rintro e w1 ⟨rfl, rfl⟩))
 have hs0 := HS.out W.drew (Zf (World.grownBy.refl _ _));clear q3 r3 s3;go_cut [6] (fun s6 wx => s6 = .pointer (some ⟨W.heap.size, 0, none⟩) ∧ wx = (W.alloc (.cells #[.string ⟨x.name.toArray⟩, .slice A1 x.params.length d1, .slice (some ⟨bB, offB, none⟩) x.blocks.length d2] 58)).drew)
 case first =>
  go_region_held3 (fun W' => W'.cell? ⟨b3, 0, none⟩ = some (.int .i64 f) ∧ W'.cell? ⟨m, 0, none⟩ = some (.slice (some ⟨bF, offF, none⟩) p.length c5) ∧ W'.cell? ⟨bF, offF + f * 3, none⟩ = some (.string ⟨x.name.toArray⟩) ∧ W'.cell? ⟨bF, offF + f * 3 + 1, none⟩ = some (.slice A1 x.params.length d1) ∧ W'.cell? ⟨bF, offF + f * 3 + 2, none⟩ = some (.slice (some ⟨bB, offB, none⟩) x.blocks.length d2))
   (first | exact hs0 | exact HS.out _ (Zd (Zf (World.grownBy.refl _ _)) _) | exact HS.out _ (Zh (Zh (Zh (Zd (Zf (World.grownBy.refl _ _)) _) (by simp) _) (by simp) _) (by simp) _)) (fail)
  all_goals (go_wp2_with fail; go_meet)
  all_goals exact ⟨rfl, rfl⟩
 case rest =>
  obtain ⟨rfl, hwc⟩ := hcut;obtain ⟨b6, hb6e⟩ : ∃ b6, b6 = W.heap.size := ⟨_, rfl⟩
  have hb6 : wc.heap[b6]? = some (.cells #[.string ⟨x.name.toArray⟩, .slice A1 x.params.length d1, .slice (some ⟨bB, offB, none⟩) x.blocks.length d2] 58 (0, 0)) := by rw [hwc, hb6e]; exact World.alloc_heap_new W _
  have hgc : W.grownBy wc none := by rw [hwc]; exact Zf (World.grownBy_alloc W _ none)
  have hn64 : ¬ b6 = b4 := by have := HbE.out; have := HsW.out; omega
  have H6 := hid (show ∀ W' : World, Chg (fun n => n = b4) wc W' → W'.cell? ⟨b6, 2, none⟩ = some (.slice (some ⟨bB, offB, none⟩) x.blocks.length d2) ∧ _ from fun W' hc => ⟨(World.cell?_of_block (hc.block b6 (Ze hb6) hn64)).trans ((Za hb6).1 2), HT.out W' ((Chg.grown (Q := fun n => n = b4) hgc (fun r e => by cases e)).trans hc (fun _ _ e => e))⟩);rw [← hb6e];have hb4c := (hgc.block b4 (Ze Hb4.out) (by simp)).trans Hb4.out;have Hb4c := hid hb4c;have Hgc := hid hgc;have hcp := hid (fun (W' : World) (hg : wc.grownBy W' none) => Zel z _ _ W' w.heap.size (HI.out W' (Zc hgc hg)) (by have := HsW.out; have := hgc.size; have := hg.size; omega));obtain ⟨g2, g31, g32, gB, -⟩ := H6.out wc (.refl _ _);clear hwc hb6e hb6 hgc hs0 hb4c;go_upto_region 4 with (fail)
  go_quiet (fail);go_upto_region 6 with (fail)
  clear g2 g31 g32 gB;obtain ⟨wd, hwd⟩ : ∃ wd, wd = wc.drewN nq := ⟨_, rfl⟩
  have hgd : wc.grownBy wd.drew none := by rw [hwd]; exact Zf (Zi (World.grownBy.refl wc none) _)
  have hs6 := H6.out wd.drew (Chg.grown (Q := fun n => n = b4) hgd (fun r e => by cases e));rw [← hwd];clear hwd;go_cut [5] (fun s5 wx => s5 = .bool true ∧ ∃ A d A' d', wx.heap[b4]? = some (.cells #[.int .u8 z.op, .string ⟨z.dst.toArray⟩, .string ⟨z.a.toArray⟩, .string ⟨z.b.toArray⟩, .int .i64 z.n, .string ⟨z.fn.toArray⟩, .slice A z.args.length d, .slice A' z.labels.length d'] 38 (0, 0)) ∧ Hid (InsS w.heap.size wx z (.slice A z.args.length d) (.slice A' z.labels.length d')) ∧ Hid (w.grownBy wx none))
  case first =>
   refine wp_region_held_drew (S := (fun W' => W'.cell? ⟨b6, 2, none⟩ = some (.slice (some ⟨bB, offB, none⟩) x.blocks.length d2) ∧ W'.cell? ⟨b3, 1, none⟩ = some (.int .i64 b) ∧ W'.cell? ⟨b3, 2, none⟩ = some (.int .i64 k) ∧ W'.cell? ⟨bB, offB + b * 2 + 1, none⟩ = some (.slice (some ⟨bC, offC, none⟩) y.code.length d6) ∧ W'.cell? ⟨bC, offC + k * 8, none⟩ = some (.int .u8 z.op) ∧ W'.cell? ⟨bC, offC + k * 8 + 1, none⟩ = some (.string ⟨z.dst.toArray⟩) ∧ W'.cell? ⟨bC, offC + k * 8 + 2, none⟩ = some (.string ⟨z.a.toArray⟩) ∧ W'.cell? ⟨bC, offC + k * 8 + 3, none⟩ = some (.string ⟨z.b.toArray⟩) ∧ W'.cell? ⟨bC, offC + k * 8 + 4, none⟩ = some (.int .i64 z.n) ∧ W'.cell? ⟨bC, offC + k * 8 + 5, none⟩ = some (.string ⟨z.fn.toArray⟩) ∧ W'.cell? ⟨bC, offC + k * 8 + 6, none⟩ = some (.slice A7 z.args.length d7) ∧ W'.cell? ⟨bC, offC + k * 8 + 7, none⟩ = some (.slice A8 z.labels.length d8))) (by kernel_rfl) hs6 (fun hHeld => ?_);refine Z1 (i := 0) (v := ?v1) rfl (by kernel_rfl) (by kernel_rfl) (by kernel_rfl) (fun _ _ _ h => h) (Or.inl ⟨by rfl, ?hy1⟩) hHeld ?rest1
   case hy1 => (intro w hSw; (try dsimp only at hSw); go_simp; (try with_reducible rfl))
   try simp only [Act.put, List.setIfInBounds_toArray, List.set_cons_zero, List.set_cons_succ]
   refine Z1 (i := 1) (v := ?v2) rfl (by kernel_rfl) (by kernel_rfl) (by kernel_rfl) (fun _ _ _ h => h) (Or.inl ⟨by rfl, ?hy2⟩) hHeld ?rest2
   case hy2 => (intro w hSw; (try dsimp only at hSw); go_simp; (try with_reducible rfl))
   try simp only [Act.put, List.setIfInBounds_toArray, List.set_cons_zero, List.set_cons_succ]
   refine Z1 (i := 2) (v := ?v3) rfl (by kernel_rfl) (by kernel_rfl) (by kernel_rfl) (fun _ _ _ h => h) (Or.inl ⟨by rfl, ?hy3⟩) hHeld ?rest3
   case hy3 => (intro w hSw; (try dsimp only at hSw); go_simp; (try with_reducible rfl))
   try simp only [Act.put, List.setIfInBounds_toArray, List.set_cons_zero, List.set_cons_succ]
   refine Z1 (i := 3) (v := ?v4) rfl (by kernel_rfl) (by kernel_rfl) (by kernel_rfl) (fun _ _ _ h => h) (Or.inl ⟨by rfl, ?hy4⟩) hHeld ?rest4
   case hy4 => (intro w hSw; (try dsimp only at hSw); go_simp; (try with_reducible rfl))
   try simp only [Act.put, List.setIfInBounds_toArray, List.set_cons_zero, List.set_cons_succ]
   refine Z1 (i := 4) (v := ?v5) rfl (by kernel_rfl) (by kernel_rfl) (by kernel_rfl) (fun _ _ _ h => h) (Or.inl ⟨by rfl, ?hy5⟩) hHeld ?rest5
   case hy5 => (intro w hSw; (try dsimp only at hSw); go_simp; (try with_reducible rfl))
   try simp only [Act.put, List.setIfInBounds_toArray, List.set_cons_zero, List.set_cons_succ]
   refine Z1 (i := 5) (v := ?v6) rfl (by kernel_rfl) (by kernel_rfl) (by kernel_rfl) (fun _ _ _ h => h) (Or.inl ⟨by rfl, ?hy6⟩) hHeld ?rest6
   case hy6 => (intro w hSw; (try dsimp only at hSw); go_simp; (try with_reducible rfl))
   try simp only [Act.put, List.setIfInBounds_toArray, List.set_cons_zero, List.set_cons_succ]
   refine Z1 (i := 6) (v := ?v7) rfl (by kernel_rfl) (by kernel_rfl) (by kernel_rfl) (fun _ _ _ h => h) (Or.inl ⟨by rfl, ?hy7⟩) hHeld ?rest7
   case hy7 => (intro w hSw; (try dsimp only at hSw); go_simp; (try with_reducible rfl))
   try simp only [Act.put, List.setIfInBounds_toArray, List.set_cons_zero, List.set_cons_succ]
   refine Z1 (i := 7) (v := ?v8) rfl (by kernel_rfl) (by kernel_rfl) (by kernel_rfl) (fun _ _ _ h => h) (Or.inl ⟨by rfl, ?hy8⟩) hHeld ?rest8
   case hy8 => (intro w hSw; (try dsimp only at hSw); go_simp; (try with_reducible rfl))
   try simp only [Act.put, List.setIfInBounds_toArray, List.set_cons_zero, List.set_cons_succ]
   refine Z1 (i := 8) (v := ?v9) rfl (by kernel_rfl) (by kernel_rfl) (by kernel_rfl) (fun _ _ _ h => h) (Or.inl ⟨by rfl, ?hy9⟩) hHeld ?rest9
   case hy9 => (intro w hSw; (try dsimp only at hSw); go_simp; (try with_reducible rfl))
   try simp only [Act.put, List.setIfInBounds_toArray, List.set_cons_zero, List.set_cons_succ]
   refine Z1 (i := 9) (v := ?v10) rfl (by kernel_rfl) (by kernel_rfl) (by kernel_rfl) (fun _ _ _ h => h) (Or.inl ⟨by rfl, ?hy10⟩) hHeld ?rest10
   case hy10 => (intro w hSw; (try dsimp only at hSw); go_simp; (try with_reducible rfl))
   try simp only [Act.put, List.setIfInBounds_toArray, List.set_cons_zero, List.set_cons_succ]
   refine Z1 (i := 10) (v := ?v11) rfl (by kernel_rfl) (by kernel_rfl) (by kernel_rfl) (fun _ _ _ h => h) (Or.inl ⟨by rfl, ?hy11⟩) hHeld ?rest11
   case hy11 => (intro w hSw; (try dsimp only at hSw); go_simp; (try with_reducible rfl))
   try simp only [Act.put, List.setIfInBounds_toArray, List.set_cons_zero, List.set_cons_succ]
   refine doH (i := 11) (by kernel_rfl) rfl (fun K' hK => ?_);go_simp;go_at_call 63;refine (hcp.out _ hgd).mono ?_;rintro e w6 ⟨A9, d9, A10, d10, rfl, hI6, hg6⟩;have hgd6 := Zc hgd hg6;have hb46 := (hgd6.block b4 (Ze Hb4c.out) (by simp)).trans Hb4c.out;have hs7 := H6.out w6 (Chg.grown (Q := fun n => n = b4) hgd6 (fun r e => by cases e));refine hK.out _ _ hs7 (fun _ => ?_)
   try simp only [Act.put, List.setIfInBounds_toArray, List.set_cons_zero, List.set_cons_succ]
   obtain ⟨kx, fx⟩ := Za hb46;have fx0 := fx 0;have fx1 := fx 1;have fx2 := fx 2;have fx3 := fx 3;have fx4 := fx 4;have fx5 := fx 5;have fx6 := fx 6;have fx7 := fx 7;have kx0 := kx 0;have kx1 := kx 1;have kx2 := kx 2;have kx3 := kx 3;have kx4 := kx 4;have kx5 := kx 5;have kx6 := kx 6;have kx7 := kx 7;clear kx fx hs7;refine doH (i := 12) (by kernel_rfl) rfl (fun K' hK => ?_);go_simp;have hc8 := chg8 b4 w6 (.int .u8 z.op) (.string ⟨z.dst.toArray⟩) (.string ⟨z.a.toArray⟩) (.string ⟨z.b.toArray⟩) (.int .i64 z.n) (.string ⟨z.fn.toArray⟩) (.slice A9 z.args.length d9) (.slice A10 z.labels.length d10);have hs8 := H6.out _ ((Chg.grown (Q := fun n => n = b4) hgd6 (fun r e => by cases e)).trans hc8 (fun _ _ e => e));refine hK.out _ _ hs8 (fun hHeld => ?_)
   try simp only [Act.put, List.setIfInBounds_toArray, List.set_cons_zero, List.set_cons_succ]
   refine Z1 (i := 13) (v := ?v13) rfl (by kernel_rfl) (by kernel_rfl) (by kernel_rfl) (fun _ _ _ h => h) (Or.inl ⟨by rfl, ?hy13⟩) hHeld ?rest13
   case hy13 => (intro w hSw; (try dsimp only at hSw); go_simp; (try with_reducible rfl))
   try simp only [Act.put, List.setIfInBounds_toArray, List.set_cons_zero, List.set_cons_succ]
   refine wpAnyH_done (by kernel_rfl) ?_ _;go_wp2_with fail;go_meet;have hb8 : (set8 w6 b4 (.int .u8 z.op) (.string ⟨z.dst.toArray⟩) (.string ⟨z.a.toArray⟩) (.string ⟨z.b.toArray⟩) (.int .i64 z.n) (.string ⟨z.fn.toArray⟩) (.slice A9 z.args.length d9) (.slice A10 z.labels.length d10)).heap[b4]? = _ := Zlj hb46 (.int .u8 z.op) (.string ⟨z.dst.toArray⟩) (.string ⟨z.a.toArray⟩) (.string ⟨z.b.toArray⟩) (.int .i64 z.n) (.string ⟨z.fn.toArray⟩) (.slice A9 z.args.length d9) (.slice A10 z.labels.length d10);have hgw6 := Zc HgW.out (Zc Hgc.out hgd6);have hbe := HbE.out;have hsd : w.heap.size + 2 ≤ wd.drew.heap.size := by have := HsW.out; have := (Zc Hgc.out hgd).size; omega
   refine ⟨rfl, A9, d9, A10, d10, hb8, hid (fun W' B' hs => hI6 W' B' ((SupI.mono hs (by omega)).chg hc8 (fun n h1 _ e => by omega))), hid (Yo hgw6 (Zfx w6 b4 (.int .u8 z.op) (.string ⟨z.dst.toArray⟩) (.string ⟨z.a.toArray⟩) (.string ⟨z.b.toArray⟩) (.int .i64 z.n) (.string ⟨z.fn.toArray⟩) (.slice A9 z.args.length d9) (.slice A10 z.labels.length d10)) (fun q e => by injection e with e; omega))⟩
  case rest =>
   obtain ⟨rfl, A9, d9, A10, d10, hb, hI9, hg9⟩ := hcut;obtain ⟨kx, -⟩ := Za hb;have kx0 := kx 0;have kx1 := kx 1;have kx2 := kx 2;have kx3 := kx 3;have kx4 := kx 4;have kx5 := kx 5;have kx6 := kx 6;have kx7 := kx 7;go_wp2;refine bodyPost_ret (v := .tuple #[insV z (.slice A9 z.args.length d9) (.slice A10 z.labels.length d10), .bool true]) (by simp [results, Tryz.results17, go_sem, insV, kx0, kx1, kx2, kx3, kx4, kx5, kx6, kx7]) rfl ⟨A9, d9, A10, d10, rfl, hI9.out, hg9.out⟩
end Go.Proofs.YtiheiaaifdjpeaaGreat
namespace Go.Proofs.YtiheiaaifdjpeaaGreat
open Lib(hid)
theorem Znz {p : GProg} {i : Nat} {q : GPt} (h : (Zg p p.length).pl[i]? = some q) : ∃ (f : GFun) (y : GBlk) (z : GIns), (pts p)[i]? = some (q, z) ∧ p[q.1]? = some f ∧ f.blocks[q.2.1]? = some y ∧ y.code[q.2.2]? = some z := by
 rw [Q6, List.getElem?_map] at h
 cases he : (pts p)[i]? with
 | none => rw [he] at h; cases h
 | some r =>
  rw [he] at h;simp only [Option.map_some, Option.some.injEq] at h;subst h;obtain ⟨f, y, h1, h2, h3⟩ := Xn (List.mem_of_getElem? (show (pts p)[i]? = some (r.1, r.2) from he));exact ⟨f, y, r.2, rfl, h1, h2, h3⟩
end Go.Proofs.YtiheiaaifdjpeaaGreat

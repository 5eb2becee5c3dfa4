/- Methods of a map of package sites that only read. Condition: the map lies in memory. -/
import Derived.Test.YtiheiaaifdjpeaaGreatDPrg
import Derived.Test.YtiheiaaifdjpeaaGreatDSitB
set_option linter.unusedVariables false
set_option linter.unusedSimpArgs false
set_option linter.unusedSectionVars false
set_option maxHeartbeats 8000000
set_option maxRecDepth 100000
namespace Go.Proofs.YtiheiaaifdjpeaaGreat
open Lib(hid)
open Go.RowKit Go.Shelf
variable {lo : Nat} {w : World} {m : Nat} {p : GProg}
theorem Zfj (h : MapL lo w m p) : Calls Tryz.prog 37 #[.pointer (some ⟨m, 0, none⟩)] w fun e w' => e = .returned (.int .i64 p.length) ∧ w = w' := by
 obtain ⟨A, c, vt, ft, mb, AS, cS, AO, cO, AP, cP, h⟩ := h.open_;have c0 : w.cell? ⟨m, 0, none⟩ = some (.slice A p.length c) := (Za h.blk).1 0;clear h;go_enter Tryz.func37, Tryz.ntmps37;go_wp2;go_ret;exact ⟨rfl, rfl⟩
theorem Zkt (h : MapL lo w m p) : Calls Tryz.prog 32 #[.pointer (some ⟨m, 0, none⟩)] w fun e w' => e = .returned (.int .i64 (Zg p p.length).of.length) ∧ w = w' := by
 obtain ⟨A, c, vt, ft, mb, AS, cS, AO, cO, AP, cP, h⟩ := h.open_;have c5 : w.cell? ⟨m, 5, none⟩ = some (.slice AO (Zg p p.length).of.length cO) := (Za h.blk).1 5;clear h;go_enter Tryz.func32, Tryz.ntmps32;go_wp2;go_ret;exact ⟨rfl, rfl⟩
theorem Zhs (h : MapL lo w m p) : Calls Tryz.prog 18 #[.pointer (some ⟨m, 0, none⟩)] w fun e w' => e = .returned (.int .i64 (Zg p p.length).vars.length) ∧ w = w' := by
 obtain ⟨A, c, vt, ft, mb, AS, cS, AO, cO, AP, cP, h⟩ := h.open_;have c1 : w.cell? ⟨m, 1, none⟩ = some (.pointer (some ⟨vt, 0, none⟩)) := (Za h.blk).1 1;obtain ⟨base, vM, vV, hT, hb⟩ := h.vars;have hL := Zsb _ _ _ _ _ w hT;clear h hT hb;go_enter Tryz.func18, Tryz.ntmps18;go_wp2_with (go_at_call 64; refine hL.mono ?_; rintro e w1 ⟨rfl, rfl⟩);go_ret;exact ⟨rfl, rfl⟩
theorem Zhr (h : MapL lo w m p) : Calls Tryz.prog 19 #[.pointer (some ⟨m, 0, none⟩)] w fun e w' => e = .returned (.int .i64 (((Zg p p.length).of.length : Int) + (p.length : Int))) ∧ w = w' := by
 have hF := Zkt h;have hN := Zfj h;obtain ⟨A, c, vt, ft, mb, AS, cS, AO, cO, AP, cP, h⟩ := h.open_;obtain ⟨-, -, -, h4, h5⟩ := h.lens;have hwrap : IntKind.i64.wrap (((Zg p p.length).of.length : Int) + (p.length : Int)) = ((Zg p p.length).of.length : Int) + (p.length : Int) := by rw [IntKind.wrap_i64]; omega
 clear h h4 h5;go_enter Tryz.func19, Tryz.ntmps19;go_wp2_with (first | (go_at_call 32; refine hF.mono ?_; rintro e w1 ⟨rfl, rfl⟩) | (go_at_call 37; refine hN.mono ?_; rintro e w1 ⟨rfl, rfl⟩));go_ret;exact ⟨by first | rfl | simp [hwrap], rfl⟩
theorem Qf (h : MapL lo w m p) (f : Int) : Calls Tryz.prog 62 #[.pointer (some ⟨m, 0, none⟩), .int .i64 f] w fun e w' => e = .returned (.bool (decide (0 ≤ f ∧ f < p.length))) ∧ w = w' := by
 have hN := Zfj h;clear h
 by_cases h0 : 0 ≤ f
 ·go_enter Tryz.func62, Tryz.ntmps62;go_wp2_with (go_at_call 37; refine hN.mono ?_; rintro e w1 ⟨rfl, rfl⟩);go_ret;exact ⟨by simp [h0], rfl⟩
 ·go_enter Tryz.func62, Tryz.ntmps62;go_wp2_with (go_at_call 37; refine hN.mono ?_; rintro e w1 ⟨rfl, rfl⟩);go_ret;exact ⟨by simp; omega, rfl⟩
theorem Ziz (h : MapL lo w m p) (f : Nat) (hf : f < p.length) : Calls Tryz.prog 35 #[.pointer (some ⟨m, 0, none⟩), .int .i64 f] w fun e w' => e = .returned (.int .i64 (((Zg p p.length).of.length : Int) + (f : Int))) ∧ w = w' := by
 have hN := Qf h f;rw [decide_eq_true (show 0 ≤ (f : Int) ∧ (f : Int) < p.length by omega)] at hN;obtain ⟨A, c, vt, ft, mb, AS, cS, AO, cO, AP, cP, h⟩ := h.open_;obtain ⟨-, -, -, h4, h5⟩ := h.lens;have hwrap : IntKind.i64.wrap (((Zg p p.length).of.length : Int) + (f : Int)) = ((Zg p p.length).of.length : Int) + (f : Int) := by rw [IntKind.wrap_i64]; omega
 have c5 : w.cell? ⟨m, 5, none⟩ = some (.slice AO (Zg p p.length).of.length cO) := (Za h.blk).1 5;clear h h4 h5;go_enter Tryz.func35, Tryz.ntmps35;go_wp2_with (go_at_call 62; refine hN.mono ?_; rintro e w1 ⟨rfl, rfl⟩);go_ret;exact ⟨by first | rfl | simp [hwrap], rfl⟩
def Zam (p : GProg) (f : Int) (s : Str) : Int × Bool := if 0 ≤ f ∧ f < p.length then (if s = nought then (-1, true) else if Zez (Zg p p.length).vars (f.toNat, s) = true then ((ixK (Zg p p.length).vars (f.toNat, s) : Nat), true) else (-1, false)) else (-1, false)
theorem Zfl (h : MapL lo w m p) (f : Int) (s : Str) : Calls Tryz.prog 21 #[.pointer (some ⟨m, 0, none⟩), .int .i64 f, .string ⟨s.toArray⟩] w fun e w' => e = .returned (.tuple #[.int .i64 (Zam p f s).1, .bool (Zam p f s).2]) ∧ w.grownBy w' none := by
 have hN := Qf h f;obtain ⟨A, c, vt, ft, mb, AS, cS, AO, cO, AP, cP, h⟩ := h.open_;have c1 : w.cell? ⟨m, 1, none⟩ = some (.pointer (some ⟨vt, 0, none⟩)) := (Za h.blk).1 1;obtain ⟨base, vM, vV, hT, hb⟩ := h.vars;clear h;unfold Zam
 by_cases hf : 0 ≤ f ∧ f < p.length
 ·rw [decide_eq_true hf] at hN;rw [if_pos hf];obtain ⟨n, rfl⟩ : ∃ n : Nat, f = n := ⟨f.toNat, by omega⟩
  have hL := Zpl _ _ _ _ _ (n, s) w hT hb;rw [Int.toNat_natCast];clear hT hb hf
  cases hs : s == [110, 117, 108, 108] with
  | true =>
   rw [if_pos (show s = nought from eq_of_beq hs)];go_enter Tryz.func21, Tryz.ntmps21;go_wp2_with (first | (go_at_call 62; refine hN.mono ?_; rintro e w1 ⟨rfl, rfl⟩));go_ret2;exact ⟨by first | rfl | simp, World.grownBy.refl _ _⟩
  | false =>
   rw [if_neg (show ¬ s = nought from fun e => by rw [e] at hs; exact absurd hs (by decide))]
   cases hk : Zez (Zg p p.length).vars (n, s) with
   | true =>
    rw [hk] at hL;go_enter Tryz.func21, Tryz.ntmps21;go_wp2_with (first | (go_at_call 62; refine hN.mono ?_; rintro e w1 ⟨rfl, rfl⟩) | (go_at_call 66; refine hL.mono ?_; rintro e w2 ⟨rfl, hg⟩));go_ret2;exact ⟨by first | rfl | simp, hg⟩
   | false =>
    rw [hk] at hL;go_enter Tryz.func21, Tryz.ntmps21;go_wp2_with (first | (go_at_call 62; refine hN.mono ?_; rintro e w1 ⟨rfl, rfl⟩) | (go_at_call 66; refine hL.mono ?_; rintro e w2 ⟨rfl, hg⟩));go_ret2;exact ⟨by first | rfl | simp, hg⟩
 ·rw [decide_eq_false hf] at hN;rw [if_neg hf];clear hT hb hf;go_enter Tryz.func21, Tryz.ntmps21;go_wp2_with (first | (go_at_call 62; refine hN.mono ?_; rintro e w1 ⟨rfl, rfl⟩));go_ret2;exact ⟨by first | rfl | simp, World.grownBy.refl _ _⟩
theorem Zlp {f : Nat} (hf : f < p.length) {s : Str} (hs : s ≠ nought) (hm : (f, s) ∈ (Zg p p.length).vars) : Zam p f s = ((((Zg p p.length).vars.idxOf (f, s) : Nat) : Int), true) := by
 have h1 : (Zg p p.length).vars.contains (f, s) = true := List.contains_iff_mem.2 hm;unfold Zam Zez ixK;rw [if_pos (by omega), if_neg hs, Int.toNat_natCast, if_pos h1, if_pos h1]
theorem Zhq (h : MapL lo w m p) (s : Str) : Calls Tryz.prog 26 #[.pointer (some ⟨m, 0, none⟩), .string ⟨s.toArray⟩] w fun e w' => e = .returned (.tuple #[.int .i64 (ixK (Zv p p.length) s), .bool (Zez (Zv p p.length) s)]) ∧ w.grownBy w' none := by
 obtain ⟨A, c, vt, ft, mb, AS, cS, AO, cO, AP, cP, h⟩ := h.open_;have c2 : w.cell? ⟨m, 2, none⟩ = some (.pointer (some ⟨ft, 0, none⟩)) := (Za h.blk).1 2;obtain ⟨base, vM, vV, hT, hb⟩ := h.funs;have hL := Zpm _ _ _ _ _ s w hT hb;clear h hT hb;go_enter Tryz.func26, Tryz.ntmps26;go_wp2_with (go_at_call 67; refine hL.mono ?_; rintro e w2 ⟨rfl, hg⟩);go_ret2;exact ⟨by first | rfl | simp, hg⟩
theorem box3 (w : World) (q : GPt) : (w.alloc (.cells #[.int .i64 q.1, .int .i64 q.2.1, .int .i64 q.2.2] 42)).heap[w.heap.size]? = some (.cells #[.int .i64 q.1, .int .i64 q.2.1, .int .i64 q.2.2] 42 (0, 0)) := World.alloc_heap_new _ _
theorem Zsh (h : MapL lo w m p) {q : GPt} (hq : Ys (Zg p p.length).at_ q = none) : Calls Tryz.prog 24 #[.pointer (some ⟨m, 0, none⟩), .agg #[.int .i64 q.1, .int .i64 q.2.1, .int .i64 q.2.2]] w fun e w' => e = .returned (.tuple #[.int .i64 0, .int .i64 0, .bool false]) ∧ w.grownBy w' none := by
 obtain ⟨A, c, vt, ft, mb, AS, cS, AO, cO, AP, cP, h⟩ := h.open_;obtain ⟨W, hW⟩ : ∃ W : World, W = w.alloc (.cells #[.int .i64 q.1, .int .i64 q.2.1, .int .i64 q.2.2] 42) := ⟨_, rfl⟩
 have hgW : w.grownBy W none := by rw [hW]; exact World.grownBy_alloc _ _ _
 have hb := (hgW.block _ (Ze h.by_) (by simp)).trans h.by_;have hrun := fun nq => Ug (P := Tryz.prog) (w := W.drewN nq) Zmn Tryz.underlying96 hb q (z := .int .i64 0) (by kernel_rfl)
 rw [hq] at hrun;simp only [X5, Option.isSome_none] at hrun;have c4 : W.cell? ⟨m, 4, none⟩ = some (.map (some mb)) := (Za ((hgW.block _ (Ze h.blk) (by simp)).trans h.blk)).1 4;have hbx := box3 w q;rw [← hW] at hbx;obtain ⟨k, -⟩ := Za hbx;have k0 := k 0;have k1 := k 1;have k2 := k 2;have Hg := hid hgW;clear h hb hbx k hgW hq;go_enter Tryz.func24, Tryz.ntmps24;go_upto_region 3 with (fail)
 rw [← hW];clear hW;go_quiet (fail);go_wp2;refine bodyPost_ret (v := .tuple #[.int .i64 0, .int .i64 0, .bool false]) (by simp [results, Tryz.results24, go_sem]) rfl ⟨rfl, Zi Hg.out nq⟩
theorem Zqe (h : MapL lo w m p) {q : GPt} {j : Nat} {x : GPt × Nat × Nat} (hq : Ys (Zg p p.length).at_ q = some j) (hx : (Zg p p.length).sites[j]? = some x) : Calls Tryz.prog 24 #[.pointer (some ⟨m, 0, none⟩), .agg #[.int .i64 q.1, .int .i64 q.2.1, .int .i64 q.2.2]] w fun e w' => e = .returned (.tuple #[.int .i64 x.2.1, .int .i64 x.2.2, .bool true]) ∧ w.grownBy w' none := by
 obtain ⟨A, c, vt, ft, mb, AS, cS, AO, cO, AP, cP, h⟩ := h.open_;obtain ⟨W, hW⟩ : ∃ W : World, W = w.alloc (.cells #[.int .i64 q.1, .int .i64 q.2.1, .int .i64 q.2.2] 42) := ⟨_, rfl⟩
 have hgW : w.grownBy W none := by rw [hW]; exact World.grownBy_alloc _ _ _
 have hbW := Zk hgW;have hb := (hgW.block _ (Ze h.by_) (by simp)).trans h.by_;have hrun := fun nq => Ug (P := Tryz.prog) (w := W.drewN nq) Zmn Tryz.underlying96 hb q (z := .int .i64 0) (by kernel_rfl)
 rw [hq] at hrun;simp only [X5, Option.isSome_some, Z3] at hrun;obtain ⟨g, rfl, hgl, h1, h2, -, -, -, s3, s4⟩ := h.siteC hx;have hj := (List.getElem?_eq_some_iff.1 hx).1;have d3 := cur hbW hgl s3;have d4 := cur hbW hgl s4;obtain ⟨cm, -⟩ := Za ((hgW.block _ (Ze h.blk) (by simp)).trans h.blk);have c4 : W.cell? ⟨m, 4, none⟩ = some (.map (some mb)) := cm 4;have c3 : W.cell? ⟨m, 3, none⟩ = some (.slice (some ⟨g, 0, none⟩) (Zg p p.length).sites.length cS) := cm 3;have hbx := box3 w q;rw [← hW] at hbx;obtain ⟨k, -⟩ := Za hbx;have k0 := k 0;have k1 := k 1;have k2 := k 2;have Hg := hid hgW;clear h hb hbx k hgW hq s3 s4 cm hbW hx;go_enter Tryz.func24, Tryz.ntmps24;go_upto_region 3 with (fail)
 rw [← hW];clear hW;go_quiet (fail);go_upto_region 6 with (fail)
 go_quiet (fail);go_wp2;refine bodyPost_ret (v := .tuple #[.int .i64 x.2.1, .int .i64 x.2.2, .bool true]) (by simp [results, Tryz.results24, go_sem]) rfl ⟨rfl, ?_⟩
 first | exact Zi (Zi Hg.out _) _ | exact Zi Hg.out _
end Go.Proofs.YtiheiaaifdjpeaaGreat
namespace Go.Proofs.YtiheiaaifdjpeaaGreat
open Lib(hid)
open Go.RowKit Go.Shelf
variable {lo : Nat} {w : World} {m : Nat} {p : GProg}
theorem MapO.ptsAt {w : World} {m : Nat} {p : GProg} {A : Option Addr} {c vt ft mb : Nat} {AS : Option Addr} {cS : Nat} {AO : Option Addr} {cO : Nat} {AP : Option Addr} {cP : Nat} (h : MapO w m p A c vt ft mb AS cS AO cO AP cP) : SlAt ptR 3 w w.heap.size (.slice AP (Zg p p.length).pl.length cP) (Zg p p.length).pl := by
 obtain ⟨base, ho⟩ := h.pts;refine SlAt.of_ownN ho rfl (fun g e => (ho.lt g e).2) fun g k x e hx => ?_
 obtain ⟨A', c', e1, _, _, h0, h1⟩ := Zr ho;injection e1 with e1 _ e2
 subst e1;subst e2
 cases AP with
 | none => simp [Value.ownBlock] at e
 | some a =>
  obtain ⟨ha, -, -⟩ := h1 a rfl;rw [ha] at ho e;simp only [Value.ownBlock, Option.map_some, Option.some.injEq] at e;obtain ⟨_, _, _, _, h6⟩ := Y2 ho;have key : ∀ t (u : Value), t < 3 → (Up x)[t]? = some u → w.cell? ⟨a.block, k * 3 + t, none⟩ = some u := fun t u ht hu => h6 _ _ ((V8 (f := Up) (sz := 3) (fun z _ => rfl) hx ht).trans hu)
  rw [← e];exact ⟨key 0 _ (by omega) rfl, key 1 _ (by omega) rfl, key 2 _ (by omega) rfl⟩
theorem Zct (h : MapL lo w m p) : Calls Tryz.prog 15 #[.pointer (some ⟨m, 0, none⟩)] w (Kd ptR 3 42 w w.heap.size (Zg p p.length).pl) := by
 obtain ⟨A, c, vt, ft, mb, AS, cS, AO, cO, AP, cP, h⟩ := h.open_;have hcl := Zek h.ptsAt (Nat.le_refl _) (by have := h.lens; omega);have c6 : w.cell? ⟨m, 6, none⟩ = some (.slice AP (Zg p p.length).pl.length cP) := (Za h.blk).1 6;clear h;go_enter Tryz.func15, Tryz.ntmps15;go_wp2_with (go_at_call 61; refine hcl.mono ?_; rintro e w1 ⟨hb, A', c', rfl, h1, h2, h3⟩);go_ret;exact ⟨hb, A', c', rfl, h1, h2, h3⟩
theorem Zku (h : MapL lo w m p) {f : Nat} {x : GFun} (hf : p[f]? = some x) : Calls Tryz.prog 31 #[.pointer (some ⟨m, 0, none⟩), .int .i64 f] w fun e w' => ∃ v, e = .returned v ∧
  w'.ownsRow w.heap.size 3 1 v (x.params.map fun s => (Zg p p.length).vars.idxOf (f, s)).length ((x.params.map fun s => (Zg p p.length).vars.idxOf (f, s)).map Z3) ∧ w.grownBy w' none := by
 have hfl := (List.getElem?_eq_some_iff.1 hf).1;have hN := Qf h f;rw [decide_eq_true (show 0 ≤ (f : Int) ∧ (f : Int) < p.length by omega)] at hN;have HM := hid h;obtain ⟨A, c, vt, ft, mb, AS, cS, AO, cO, AP, cP, h⟩ := h.open_;have c0 : w.cell? ⟨m, 0, none⟩ = some (.slice A p.length c) := (Za h.blk).1 0;obtain ⟨A5, c5, e5, hl1, hl2, -, hA⟩ := h.prog.open_;obtain ⟨rfl, rfl⟩ : A5 = A ∧ c5 = c := by simp only [Value.slice.injEq] at e5; exact ⟨e5.1.symm, e5.2.2.symm⟩
 obtain ⟨x', b, off, hx, rfl, hbB, hr⟩ := hA.at_ hfl;obtain rfl : x = x' := by rw [hf] at hx; injection hx
 obtain ⟨A1, d1, A2, d2, hfa, m1, m2, e0, e1, e2⟩ := Yh hr;have Hok := hid h.ok;have Hfa := hid hfa;have Hf := hid hf;have hml := h.ok.params hf;have hmw := Ze h.blk;clear h hA hx hr e0 e2 hfa e5;obtain ⟨ix, hix⟩ : ∃ ix : Str → Nat, ix = fun s => (Zg p p.length).vars.idxOf (f, s) := ⟨_, rfl⟩
 rw [← hix];have Hix := hid hix;clear hix;go_enter Tryz.func31, Tryz.ntmps31;go_wp2_with (first | (go_at_call 62; refine hN.mono ?_; rintro e w1 ⟨rfl, rfl⟩));go_loopw [24, 5] (fun s24 s5 wr' => ∃ j : Nat, j ≤ x.params.length ∧ s24 = .int .i64 j ∧ ∃ A3 d3, s5 = .slice A3 j d3 ∧ Hid (wr'.ownsRow w.heap.size 3 1 (.slice A3 j d3) ((x.params.take j).map ix).length (((x.params.take j).map ix).map Z3)) ∧ Hid (w.grownBy wr' none)) (fun s24 _ _ => x.params.length - (intOf s24).toNat)
 case atStart => exact ⟨0, Nat.zero_le _, rfl, none, 0, rfl, ⟨rfl, .inl ⟨rfl, rfl⟩⟩, World.grownBy.refl _ _⟩
 case round =>
  obtain ⟨j, hj, rfl, A3, d3, rfl, ho, hg⟩ := hrel
  by_cases hlj : j < x.params.length
  ·obtain ⟨s, b1, off1, hs, rfl, hb1, hstr, hsl⟩ := Hfa.out.params.at1 hlj;have hstr1 := cur (Zk hg.out) hb1 hstr;have hpn := (Zsu Hok.out Hf.out (j := j) (by omega)).2 s hs;have hvar := (Zfl (HM.out.grown hg.out) f s)
   rw [Zlp hfl (Ka (Hok.out.pname Hf.out s (List.mem_of_getElem? hs))).1 hpn.2] at hvar;have hix : (Zg p p.length).vars.idxOf (f, s) = ix s := by rw [Hix.out]
   rw [hix] at hvar;have Hmore : (x.params.take j).map ix ++ [ix s] = (x.params.take (j + 1)).map ix := by rw [List.take_add_one, hs]; simp
   have HM1 := hid Hmore;have c3 : ∀ W : World, (W.alloc (.cells #[.int .i64 (ix s)] 3)).cell? ⟨W.heap.size, 0, none⟩ = some (.int .i64 (ix s)) := fun W => by simp
   clear hpn hix Hmore hstr hs;go_upto_region 8 with (go_at_call 21; refine hvar.mono ?_; rintro e w2 ⟨rfl, hg2⟩; have ho8 := ((ho.out.kept hg2 (by cases (Value.slice A3 j d3).ownBlock <;> simp)).alloc (.cells #[.int .i64 (ix s)] 3)); have c4 := c3 w2; have hs2 := hg2.size; have hs1 := hg.out.size)
   go_wp2_with (refine Va rfl _ _ rfl w.heap.size _ ((x.params.take j).map ix) rfl ho8 w2.heap.size (ix s) rfl c4 (by simp; omega) (by simp; omega) ?_; intro G cap w3 ho3 hg3 hor);go_roundw
   case measure => simp [intOf]; omega
   case rel =>
    refine ⟨j + 1, by omega, by go_num, some ⟨G, 0, none⟩, cap, ?_, ?_, ?_⟩
    ·rfl
    ·have hlj' : ((x.params.take j).map ix).length = j := by simp; omega
     rw [hlj'] at ho3;rw [← HM1.out];exact ho3
    ·exact Yo (Zd (Zc hg.out hg2) _) hg3 (fun q e => (ho.out.lt q e).1)
  ·obtain rfl : j = x.params.length := by omega
   rw [List.take_length] at ho;go_wp2;go_ret;exact ⟨_, rfl, ho.out, hg.out⟩
theorem Zti {p : GProg} {o j : Nat} {x : GPt × Nat × Nat} (ho : (Zg p p.length).of[o]? = some j) (hx : (Zg p p.length).sites[j]? = some x) : x.2.1 ≤ o ∧ o < x.2.1 + x.2.2 ∧ x.2.1 + x.2.2 ≤ (Zg p p.length).of.length := by
 have hw := Qo p (Nat.le_refl p.length);obtain ⟨y, hy, h1, h2⟩ := hw.fs o j ho;rw [hx] at hy;injection hy with hy
 subst hy;have h3 := hw.bs j x hx (x.2.2 - 1) (by omega);have h4 := (List.getElem?_eq_some_iff.1 h3).1;exact ⟨h1, h2, by omega⟩
theorem Zqb (h : MapL lo w m p) {f : Nat} (hf : f < p.length) : Calls Tryz.prog 34 #[.pointer (some ⟨m, 0, none⟩), .int .i64 ((Zg p p.length).of.length + f : Nat)] w fun e w' => e = .returned (.tuple #[.agg #[.int .i64 0, .int .i64 0, .int .i64 0], .int .i64 0, .int .i64 f, .int .i64 0]) ∧ w.grownBy w' none := by
 have hO := Zhr (h.grown (World.grownBy_alloc w (.cells #[.int .i64 0, .int .i64 0, .int .i64 0] 42) none));obtain ⟨A, c, vt, ft, mb, AS, cS, AO, cO, AP, cP, h⟩ := h.open_;obtain ⟨-, -, -, l4, l5⟩ := h.lens;obtain ⟨nO, hnO⟩ : ∃ n, n = (Zg p p.length).of.length := ⟨_, rfl⟩
 obtain ⟨cm, -⟩ := Za h.blk;have c5 : w.cell? ⟨m, 5, none⟩ = some (.slice AO (Zg p p.length).of.length cO) := cm 5;rw [← hnO] at c5 hO l4 ⊢;have hml := Ze h.blk;have hsub : IntKind.i64.wrap (((nO + f : Nat) : Int) - (nO : Int)) = (f : Int) := by rw [IntKind.wrap_i64]; omega
 have hbx := World.alloc_heap_new w (.cells #[.int .i64 0, .int .i64 0, .int .i64 0] 42);obtain ⟨o, ho⟩ : ∃ o : Nat, o = nO + f := ⟨_, rfl⟩
 rw [← ho] at hsub ⊢;have hge : nO ≤ o := by omega
 have hlt : (o : Int) < (nO : Int) + (p.length : Int) := by omega
 clear h cm hnO ho;go_enter Tryz.func34, Tryz.ntmps34;obtain ⟨W, hW⟩ : ∃ W : World, W = w.alloc (.cells #[.int .i64 0, .int .i64 0, .int .i64 0] 42) := ⟨_, rfl⟩
 rw [← hW] at hO hbx;have hgW : w.grownBy W none := by rw [hW]; exact World.grownBy_alloc w _ none
 have HSg := hid (show ∀ W' : World, w.grownBy W' none → W'.cell? ⟨m, 5, none⟩ = some (.slice AO nO cO) from fun W' hg' => cur (Zk hg') hml c5);have hs0 := HSg.out W.drew (Zf hgW);have c5W := HSg.out W hgW;obtain ⟨z, fz⟩ := Za hbx;have z0 := z 0;have z1 := z 1;have z2 := z 2;have f0 := fz 0;have f1 := fz 1;have f2 := fz 2;have Hbx := hid hbx;have HgW := hid hgW;clear z fz hbx hgW c5;go_upto_region 1 with (fail)
 rw [← hW];clear hW;go_upto_region 6 with (first | (go_at_call 19; refine hO.mono ?_; rintro e w1 ⟨rfl, rfl⟩))
 go_region_held3 (fun W' => W'.cell? ⟨m, 5, none⟩ = some (.slice AO nO cO))
  (first | exact hs0 | exact HSg.out _ (Zf HgW.out) | exact HSg.out _ (Zh (Zh (Zh (Zf HgW.out) (by simp) _) (by simp) _) (by simp) _)) (fail)
 have hbd := Zs (Zs (Zs Hbx.out 0 (.int .i64 0)) 1 (.int .i64 0)) 2 (.int .i64 0);have hgd : w.grownBy (((W.setCell ⟨w.heap.size, 0, none⟩ (.int .i64 0)).setCell ⟨w.heap.size, 1, none⟩ (.int .i64 0)).setCell ⟨w.heap.size, 2, none⟩ (.int .i64 0)).drew none := Zf (Zh (Zh (Zh HgW.out (by simp) _) (by simp) _) (by simp) _);have hbd' : (((W.setCell ⟨w.heap.size, 0, none⟩ (.int .i64 0)).setCell ⟨w.heap.size, 1, none⟩ (.int .i64 0)).setCell ⟨w.heap.size, 2, none⟩ (.int .i64 0)).drew.heap[w.heap.size]? = _ := hbd;obtain ⟨Wd, hWd⟩ : ∃ Wd : World, Wd = (((W.setCell ⟨w.heap.size, 0, none⟩ (.int .i64 0)).setCell ⟨w.heap.size, 1, none⟩ (.int .i64 0)).setCell ⟨w.heap.size, 2, none⟩ (.int .i64 0)).drew := ⟨_, rfl⟩
 rw [← hWd] at hbd' hgd ⊢;obtain ⟨e, -⟩ := Za hbd';have e0 := e 0;have e1 := e 1;have e2 := e 2;have Hgd := hid hgd;clear hWd hbd hbd' hgd e z0 z1 z2 f0 f1 f2 hs0 HSg;go_wp2;refine bodyPost_ret (v := .tuple #[.agg #[.int .i64 0, .int .i64 0, .int .i64 0], .int .i64 0, .int .i64 f, .int .i64 0]) (by simp [results, Tryz.results34, go_sem, e0, e1, e2, hsub]) rfl ⟨rfl, Hgd.out⟩
theorem Zms (h : MapL lo w m p) {o j : Nat} {x : GPt × Nat × Nat} (ho : (Zg p p.length).of[o]? = some j) (hx : (Zg p p.length).sites[j]? = some x) : Calls Tryz.prog 34 #[.pointer (some ⟨m, 0, none⟩), .int .i64 o] w fun e w' => e = .returned (.tuple #[.agg #[.int .i64 x.1.1, .int .i64 x.1.2.1, .int .i64 x.1.2.2], .int .i64 ((o : Int) - (x.2.1 : Int)), .int .i64 (-1), .int .i64 0]) ∧ w.grownBy w' none := by
 have hO := Zhr (h.grown (World.grownBy_alloc w (.cells #[.int .i64 0, .int .i64 0, .int .i64 0] 42) none));obtain ⟨A, c, vt, ft, mb, AS, cS, AO, cO, AP, cP, h⟩ := h.open_;obtain ⟨l1, l2, l3⟩ := Zti ho hx;obtain ⟨-, -, -, l4, -⟩ := h.lens;obtain ⟨cm, -⟩ := Za h.blk;have c3 : w.cell? ⟨m, 3, none⟩ = some (.slice AS (Zg p p.length).sites.length cS) := cm 3;have c5 : w.cell? ⟨m, 5, none⟩ = some (.slice AO (Zg p p.length).of.length cO) := cm 5;obtain ⟨g, rfl, hgl, h1, h2, s0, s1, s2, s3, s4⟩ := h.siteC hx;obtain ⟨g2, rfl, hgl2, h3, h4, o1⟩ := h.ofC ho;have hj := (List.getElem?_eq_some_iff.1 hx).1;have hml := Ze h.blk;obtain ⟨nO, hnO⟩ : ∃ n, n = (Zg p p.length).of.length := ⟨_, rfl⟩
 obtain ⟨nS, hnS⟩ : ∃ n, n = (Zg p p.length).sites.length := ⟨_, rfl⟩
 rw [← hnO] at c5 hO h3 l3 l4;rw [← hnS] at c3 h1 hj
 have HSg := hid (show ∀ W' : World, w.grownBy W' none → W'.cell? ⟨m, 3, none⟩ = some (.slice (some ⟨g, 0, none⟩) nS cS) ∧ W'.cell? ⟨m, 5, none⟩ = some (.slice (some ⟨g2, 0, none⟩) nO cO) ∧ W'.cell? ⟨g2, o, none⟩ = some (.int .i64 j) ∧
                      W'.cell? ⟨g, j * 5, none⟩ = some (.int .i64 x.1.1) ∧ W'.cell? ⟨g, j * 5 + 1, none⟩ = some (.int .i64 x.1.2.1) ∧ W'.cell? ⟨g, j * 5 + 2, none⟩ = some (.int .i64 x.1.2.2) ∧ W'.cell? ⟨g, j * 5 + 3, none⟩ = some (.int .i64 x.2.1) ∧ W'.cell? ⟨g, j * 5 + 4, none⟩ = some (.int .i64 x.2.2) from fun W' hg' => by
                     have hb := Zk hg'
                     exact ⟨cur hb hml c3, cur hb hml c5, cur hb hgl2 o1, cur hb hgl s0, cur hb hgl s1, cur hb hgl s2, cur hb hgl s3, cur hb hgl s4⟩)
 obtain ⟨W, hW⟩ : ∃ W : World, W = w.alloc (.cells #[.int .i64 0, .int .i64 0, .int .i64 0] 42) := ⟨_, rfl⟩
 have hbx := World.alloc_heap_new w (.cells #[.int .i64 0, .int .i64 0, .int .i64 0] 42);have hgW : w.grownBy W none := by rw [hW]; exact World.grownBy_alloc w _ none
 have hWs : W.heap.size = w.heap.size + 1 := by rw [hW]; simp
 rw [← hW] at hO hbx;have hs0 := HSg.out W.drew (Zf hgW);obtain ⟨c3W, c5W, -⟩ := HSg.out W hgW;obtain ⟨rb, hrb⟩ : ∃ rb, rb = w.heap.size := ⟨_, rfl⟩
 have Hbx := hid hbx;have HgW := hid hgW;have HWs := hid hWs;have w1 : IntKind.i64.wrap ((o : Int) - (x.2.1 : Int)) = (o : Int) - (x.2.1 : Int) := by rw [IntKind.wrap_i64]; omega
 have hon : o < nO := by omega
 clear h cm hx ho hnO hnS hbx hgW hWs c3 c5 s0 s1 s2 s3 s4 o1;go_enter Tryz.func34, Tryz.ntmps34;go_upto_region 1 with (fail)
 rw [← hW, ← hrb];rw [← hrb] at Hbx HWs;have Hrb := hid hrb;clear hW hrb;go_upto_region 7 with (first | (go_at_call 19; refine hO.mono ?_; rintro e w1 ⟨rfl, rfl⟩))
 go_cut [8, 23] (fun s8 _ wx => s8 = .pointer (some ⟨W.heap.size, 0, none⟩) ∧ wx = (W.alloc (.cells #[.int .i64 x.1.1, .int .i64 x.1.2.1, .int .i64 x.1.2.2, .int .i64 x.2.1, .int .i64 x.2.2] 106)).drew)
 case first =>
  go_region_held3 (fun W' => W'.cell? ⟨m, 3, none⟩ = some (.slice (some ⟨g, 0, none⟩) nS cS) ∧ W'.cell? ⟨m, 5, none⟩ = some (.slice (some ⟨g2, 0, none⟩) nO cO) ∧ W'.cell? ⟨g2, o, none⟩ = some (.int .i64 j) ∧
                   W'.cell? ⟨g, j * 5, none⟩ = some (.int .i64 x.1.1) ∧ W'.cell? ⟨g, j * 5 + 1, none⟩ = some (.int .i64 x.1.2.1) ∧ W'.cell? ⟨g, j * 5 + 2, none⟩ = some (.int .i64 x.1.2.2) ∧ W'.cell? ⟨g, j * 5 + 3, none⟩ = some (.int .i64 x.2.1) ∧ W'.cell? ⟨g, j * 5 + 4, none⟩ = some (.int .i64 x.2.2))
   (first | exact hs0 | exact HSg.out _ (Zd (Zf HgW.out) _) | exact HSg.out _ (Zh (Zh (Zh (Zh (Zh (Zd (Zf HgW.out) _) (by simp [HWs.out, Hrb.out]) _) (by simp [HWs.out, Hrb.out]) _) (by simp [HWs.out, Hrb.out]) _) (by simp [HWs.out, Hrb.out]) _) (by simp [HWs.out, Hrb.out]) _)) (fail)
  all_goals (go_wp2_with fail; go_meet)
  all_goals exact ⟨rfl, rfl⟩
 case rest =>
  obtain ⟨rfl, hwc⟩ := hcut;have hb5 : wc.heap[W.heap.size]? = some (.cells #[.int .i64 x.1.1, .int .i64 x.1.2.1, .int .i64 x.1.2.2, .int .i64 x.2.1, .int .i64 x.2.2] 106 (0, 0)) := by rw [hwc]; exact World.alloc_heap_new W _
  have hbr : wc.heap[rb]? = some (.cells #[.int .i64 0, .int .i64 0, .int .i64 0] 42 (0, 0)) := by rw [hwc]; exact Zb Hbx.out _
  have hgc : w.grownBy wc none := by rw [hwc]; exact Zf (Zd HgW.out _)
  have Hgc := hid hgc;obtain ⟨sb, hsb⟩ : ∃ sb, sb = W.heap.size := ⟨_, rfl⟩
  rw [← hsb] at hb5 ⊢;have hne : sb ≠ rb := by have := HWs.out; omega
  have hne2 : rb ≠ sb := fun e => hne e.symm
  have Hb5 := hid hb5;have Hbr := hid hbr
  have HSr := hid (show ∀ W' : World, W'.heap[sb]? = wc.heap[sb]? → W'.cell? ⟨sb, 0, none⟩ = some (.int .i64 x.1.1) ∧ W'.cell? ⟨sb, 1, none⟩ = some (.int .i64 x.1.2.1) ∧ W'.cell? ⟨sb, 2, none⟩ = some (.int .i64 x.1.2.2) ∧ W'.cell? ⟨sb, 3, none⟩ = some (.int .i64 x.2.1) from fun W' e => by
                       obtain ⟨q, -⟩ := Za (e.trans Hb5.out)
                       exact ⟨q 0, q 1, q 2, q 3⟩)
  have hs1 := HSr.out wc.drew rfl;obtain ⟨z, fz⟩ := Za hbr;have z0 := z 0;have z1 := z 1;have z2 := z 2;have f0 := fz 0;have f1 := fz 1;have f2 := fz 2;clear hwc hgc hb5 hbr hsb z fz hs0 HSg c3W c5W;have hC8 := ((Chg.set (Q := fun n => n = rb) wc (p := ⟨rb, 0, none⟩) rfl (.int .i64 x.1.1)).trans (Chg.set (Q := fun n => n = rb) _ (p := ⟨rb, 1, none⟩) rfl (.int .i64 x.1.2.1)) (fun _ _ e => e)).trans (Chg.set (Q := fun n => n = rb) _ (p := ⟨rb, 2, none⟩) rfl (.int .i64 x.1.2.2)) (fun _ _ e => e);have hS8 := HSr.out _ (hC8.block sb (Ze Hb5.out) hne);have HS8 := hid hS8;clear hC8 hS8;go_upto_region 8 with (fail)
  go_region_held3 (fun W' => W'.cell? ⟨sb, 0, none⟩ = some (.int .i64 x.1.1) ∧ W'.cell? ⟨sb, 1, none⟩ = some (.int .i64 x.1.2.1) ∧ W'.cell? ⟨sb, 2, none⟩ = some (.int .i64 x.1.2.2) ∧ W'.cell? ⟨sb, 3, none⟩ = some (.int .i64 x.2.1))
   (first | exact hs1 | exact HS8.out) (fail)
  have hbd := Zs (Zs (Zs Hbr.out 0 (.int .i64 x.1.1)) 1 (.int .i64 x.1.2.1)) 2 (.int .i64 x.1.2.2);have hgd : w.grownBy (((wc.setCell ⟨rb, 0, none⟩ (.int .i64 x.1.1)).setCell ⟨rb, 1, none⟩ (.int .i64 x.1.2.1)).setCell ⟨rb, 2, none⟩ (.int .i64 x.1.2.2)).drew none := Zf (Zh (Zh (Zh Hgc.out (by simp [Hrb.out]) _) (by simp [Hrb.out]) _) (by simp [Hrb.out]) _);have hbd' : (((wc.setCell ⟨rb, 0, none⟩ (.int .i64 x.1.1)).setCell ⟨rb, 1, none⟩ (.int .i64 x.1.2.1)).setCell ⟨rb, 2, none⟩ (.int .i64 x.1.2.2)).drew.heap[rb]? = _ := hbd;obtain ⟨Wd, hWd⟩ : ∃ Wd : World, Wd = (((wc.setCell ⟨rb, 0, none⟩ (.int .i64 x.1.1)).setCell ⟨rb, 1, none⟩ (.int .i64 x.1.2.1)).setCell ⟨rb, 2, none⟩ (.int .i64 x.1.2.2)).drew := ⟨_, rfl⟩
  rw [← hWd] at hbd' hgd ⊢;obtain ⟨e, -⟩ := Za hbd';have e0 := e 0;have e1 := e 1;have e2 := e 2;have Hgd := hid hgd;clear hWd hbd hbd' hgd e z0 z1 z2 f0 f1 f2 hs1 HSr;go_wp2;refine bodyPost_ret (v := .tuple #[.agg #[.int .i64 x.1.1, .int .i64 x.1.2.1, .int .i64 x.1.2.2], .int .i64 ((o : Int) - (x.2.1 : Int)), .int .i64 (-1), .int .i64 0]) (by simp [results, Tryz.results34, go_sem, e0, e1, e2]) rfl ⟨rfl, Hgd.out⟩
end Go.Proofs.YtiheiaaifdjpeaaGreat
namespace Go.Proofs.YtiheiaaifdjpeaaGreat
open Lib(hid)
open Go.RowKit Go.Shelf
attribute [local go_sem] Oper.semAt_some
def Jd (v : Int) : Value := .int .i64 v
def Xv (p : GProg) (f : Nat) (l : List (GPt × GIns)) : List Int := (l.filter fun q => q.2.op == 14).map fun q => (Zam p f q.2.a).1
theorem Zne (p : GProg) (f : Nat) (l : List (GPt × GIns)) (q : GPt × GIns) : Xv p f (l ++ [q]) = if q.2.op = 14 then Xv p f l ++ [(Zam p f q.2.a).1] else Xv p f l := by
 unfold Xv;rw [List.filter_append, List.map_append]
 by_cases h : q.2.op = 14
 ·rw [if_pos h];simp [h]
 ·rw [if_neg h];simp [h]
theorem Zcd (p : GProg) (f : Nat) (l : List (GPt × GIns)) : (Xv p f l).length ≤ l.length := by
 unfold Xv;rw [List.length_map];exact List.length_filter_le _ _
theorem Zgd {F : Fence} {rm : Nat} {P : Program} {w : World} {ops : Array Oper} {rest : List Oper} {o : Oper} {a : Act} {Q : Exit → Act → World → Prop} (hgd : o.guard = none) (s x : Operand) (t : TypeId)
  (ho : o.op = .call { callee := .builtin .append, args := #[s, x], argTypes := #[t, t] })
  (base : Nat) (e : TypeId) (z : Value) (size bytes : Nat) (ht : P.underlying t = some (.slice e)) (hinfo : (P.info? e).map (fun i => (i.zero, i.size, i.bytes)) = some (some z, size, bytes)) (hzs : z.cells.size = size) (hsz : 0 < size)
  (v : Value) (xs : List Value) (n : Nat) (hs : a.eval s = v) (hown : w.ownsRow base e size v n xs)
  (b : Nat) (news : List Value) (hl : news.length = size) (hu : ∀ u ∈ news, u.oneCell' = true) (hx : a.eval x = .slice (some ⟨b, 0, none⟩) 1 1) (cs : Array Value) (tb : TypeId) (hb : w.heap[b]? = some (.cells cs tb (0, 0))) (hcs : cs.toList = news)
  (h63 : n + 1 ≤ maxLen) (hbytes : (n + 1) * bytes ≤ 140737488355328) (hbase : base ≤ w.heap.size)
  (h : ∀ g c w', w'.ownsRow base e size (.slice (some ⟨g, 0, none⟩) (n + 1) c) (n + 1) (xs ++ news) → w.grownBy w' v.ownBlock → (v.ownBlock = some g ∨ g = w.heap.size) → wpListIn F rm P ops Q rest (a.put o.dst (.slice (some ⟨g, 0, none⟩) (n + 1) c)) w') :
  wpListIn F rm P ops Q (o :: rest) a w := by
 refine wpListIn_plain hgd fun K hK' => ?_
 obtain ⟨g, c, w', hrun, h1, h2, h3⟩ := Zhv (P := P) t o.type base e z size bytes ht hinfo hzs hsz v xs n hown b news hl hu cs tb hb hcs h63 hbytes hbase;unfold Oper.wpIn;refine ⟨?_, ?_⟩
 ·simp [Oper.about, ho, resolve, Target.leads, Sem.run_pure]
 ·rw [Oper.semAt_plain F _ _ (by rw [ho]; intro c hc'; cases hc')];simp [execOp, ho, resolve, invoke, builtin, hs, hx, hrun, Result.andThen];exact hK' _ _ (h g c w' h1 h2 h3)
structure RetI (wS : World) (ob : Nat) (l : List Int) (W : World) : Prop where
 blk : ∃ v, W.heap[ob]? = some (.cells #[v] 54 (0, 0)) ∧ W.ownsRow wS.heap.size 3 1 v l.length (l.map Jd)
 chg : Chg (fun n => n = ob) wS W
theorem RetI.keep {wS W W' : World} {ob : Nat} {l : List Int} {Q : Nat → Prop} (hs : RetI wS ob l W) (hc : Chg Q W W') (h1 : ¬ Q ob) (h2 : ∀ n, n < wS.heap.size → ¬ Q n) (h3 : ∀ n o, W.heap[n]? = some o → o.isCells = true → ¬ Q n) : RetI wS ob l W' := by
 obtain ⟨v, h4, h5⟩ := hs.blk;refine ⟨⟨v, hc.at_ h4 h1, hc.owns h5 (fun g e => ?_)⟩, hs.chg.trans hc (fun n hn e => absurd e (h2 n hn))⟩;obtain ⟨hl, h6⟩ := h5
 rcases h6 with ⟨h6, _⟩ | ⟨g', cap, cur, rfl, hb, hh, r⟩
 ·rw [h6] at e; cases e
 ·simp only [Value.ownBlock, Option.map_some, Option.some.injEq] at e;subst e;exact h3 _ _ hh rfl
theorem Ztb {wS : World} {ob : Nat} {p : GProg} {f : Nat} {w0 : World} {B : Nat} {q : GProg} (hob : ob < wS.heap.size) : OwnFrom wS.heap.size (fun (pre : List (Pt4 w0 B q)) W => RetI wS ob (Xv p f (pre.map pj)) W) := fun s W W' row hs hg hr =>
 hs.keep (Q := fun n => row = some n) (Chg.grown hg (fun r e => e)) (fun e => by have := (hr ob e).1; omega) (fun n hn e => by have := (hr n e).1; omega) (fun n o ho hc e => by
                                                                                                                                                           obtain ⟨_, o', ho', hc'⟩ := hr n e
                                                                                                                                                           rw [ho] at ho'
                                                                                                                                                           cases ho'
                                                                                                                                                           rw [hc] at hc'
                                                                                                                                                           cases hc')
theorem Qi {w : World} {base base' n sz : Nat} {e : TypeId} {v : Value} {xs : List Value} (h : w.ownsRow base e sz v n xs) (hb : base' ≤ base) : w.ownsRow base' e sz v n xs := by
 obtain ⟨hl, h6⟩ := h;refine ⟨hl, ?_⟩
 rcases h6 with h6 | ⟨g', cap, cur, e1, hb', r⟩
 ·exact .inl h6
 ·exact .inr ⟨g', cap, cur, e1, Nat.le_trans hb hb', r⟩
theorem Zht {w : World} {base n sz : Nat} {e : TypeId} {v : Value} {xs : List Value} (h : w.ownsRow base e sz v n xs) {g : Nat} (hg : v.ownBlock = some g) : ∃ cs t f, w.heap[g]? = some (.cells cs t f) := by
 obtain ⟨hl, h6⟩ := h
 rcases h6 with ⟨h6, _⟩ | ⟨g', cap, cur, rfl, hb, hh, r⟩
 ·rw [h6] at hg; cases hg
 ·simp only [Value.ownBlock, Option.map_some, Option.some.injEq] at hg;subst hg;exact ⟨_, _, _, hh⟩
variable {lo : Nat} {w : World} {m : Nat} {p : GProg}
theorem Zqc (h : MapL lo w m p) {f : Nat} {x : GFun} (hf : p[f]? = some x) : Calls Tryz.prog 45 #[.pointer (some ⟨m, 0, none⟩), .int .i64 f] w fun e w' => ∃ v, e = .returned v ∧
  w'.ownsRow w.heap.size 3 1 v (Xv p f (pts [x])).length ((Xv p f (pts [x])).map Jd) ∧ w.grownBy w' none := by
 have hfl := (List.getElem?_eq_some_iff.1 hf).1;have HM := hid h;obtain ⟨W2, hW2⟩ : ∃ W2, W2 = (w.alloc (.cells #[.pointer (some ⟨m, 0, none⟩)] 27)).alloc (.cells #[.int .i64 f] 3) := ⟨_, rfl⟩
 have hg2 : w.grownBy W2 none := by rw [hW2]; exact Zd (World.grownBy_alloc w _ none) _
 have hN := Qf (h.grown hg2) f;rw [decide_eq_true (show 0 ≤ (f : Int) ∧ (f : Int) < p.length by omega)] at hN;obtain ⟨A, c, vt, ft, mb, AS, cS, AO, cO, AP, cP, h⟩ := h.open_;have c0 : w.cell? ⟨m, 0, none⟩ = some (.slice A p.length c) := (Za h.blk).1 0;have hml := Ze h.blk;obtain ⟨A5, c5, e5, hl1, hl2, -, hA⟩ := h.prog.open_;obtain ⟨rfl, rfl⟩ : A5 = A ∧ c5 = c := by simp only [Value.slice.injEq] at e5; exact ⟨e5.1.symm, e5.2.2.symm⟩
 obtain ⟨b, off, rfl, hbw, hone⟩ := hA.one hf;have Hone := hid hone;have Hcnt := hid (Q1 h.ok hf);have hrn := Zos b off p.length c5 f hfl hl2;have hfw : IntKind.i64.wrap ((f : Int) + 1) = (f : Int) + 1 := by rw [IntKind.wrap_i64]; omega
 have hb2 : W2.heap[w.heap.size]? = some (.cells #[.pointer (some ⟨m, 0, none⟩)] 27 (0, 0)) := by rw [hW2]; exact Zb (World.alloc_heap_new w _) _
 have hb3 : W2.heap[w.heap.size + 1]? = some (.cells #[.int .i64 f] 3 (0, 0)) := by
  have := World.alloc_heap_new (w.alloc (.cells #[.pointer (some ⟨m, 0, none⟩)] 27)) (.cells #[.int .i64 f] 3);rw [World.size_alloc] at this;rw [hW2]; exact this
 have hs2 : W2.heap.size = w.heap.size + 2 := by rw [hW2]; simp
 have HS := hid (show ∀ W' : World, W2.grownBy W' none → W'.cell? ⟨w.heap.size, 0, none⟩ = some (.pointer (some ⟨m, 0, none⟩)) ∧ W'.cell? ⟨w.heap.size + 1, 0, none⟩ = some (.int .i64 f) ∧ W'.cell? ⟨m, 0, none⟩ = some (.slice (some ⟨b, off, none⟩) p.length c5) from fun W' hg =>
                     ⟨(World.cell?_of_block (hg.block w.heap.size (by omega) (by simp))).trans ((Za hb2).1 0), (World.cell?_of_block (hg.block (w.heap.size + 1) (by omega) (by simp))).trans ((Za hb3).1 0), (World.cell?_of_block ((Zc hg2 hg).block _ hml (by simp))).trans c0⟩)
 obtain ⟨k2, k3, k0⟩ := HS.out W2 (World.grownBy.refl _ _);have Hg2 := hid hg2;have Hs2 := hid hs2;have Hml := hid hml;clear h hA e5 hone hb2 hb3 c0 hg2 hs2 hml;refine (callsIn_wide (n := 9)).1 ?_;refine callsIn_of_wp_marks Tryz.func45 rfl trivial ?_ rfl;refine wpIn_wide.2 ?_;simp only [Tryz.ntmps45, List.size_toArray, List.length_cons, List.length_nil, Nat.reduceAdd, Nat.reduceSub, Array.replicate_succ, Array.replicate_zero, List.push_toArray, List.append_toArray, List.nil_append, List.cons_append];go_upto_region 1 with (fail)
 rw [← hW2];clear hW2;go_upto_region 4 with (first | (go_at_call 62; refine hN.mono ?_; rintro e w1 ⟨rfl, rfl⟩))
 obtain ⟨w3, hw3⟩ : ∃ w3, w3 = W2.alloc (.cells #[.slice none 0 0] 54) := ⟨_, rfl⟩
 have hg23 : W2.grownBy w3 none := by rw [hw3]; exact World.grownBy_alloc W2 _ none
 have hs3 : w3.heap.size = w.heap.size + 3 := by rw [hw3]; simp [Hs2.out]
 obtain ⟨ob, hob⟩ : ∃ ob, ob = W2.heap.size := ⟨_, rfl⟩
 have hbo : w3.heap[ob]? = some (.cells #[.slice none 0 0] 54 (0, 0)) := by rw [hw3, hob]; exact World.alloc_heap_new W2 _
 rw [← hw3, ← hob];obtain ⟨b2, hb2⟩ : ∃ b2, b2 = w.heap.size := ⟨_, rfl⟩
 obtain ⟨b3, hb3⟩ : ∃ b3, b3 = w.heap.size + 1 := ⟨_, rfl⟩
 rw [← hb3, ← hb2] at HS;rw [← hb3, ← hb2];have Hbb := hid (show b2 = w.heap.size ∧ b3 = w.heap.size + 1 ∧ ob = w.heap.size + 2 ∧ w3.heap.size = w.heap.size + 3 from ⟨hb2, hb3, hob.trans Hs2.out, hs3⟩);clear hw3 k2 k3 k0 hs3 hob hb2 hb3;have hs0 := HS.out w3.drew (Zf hg23);have hsc := Zhx (some ⟨b, off + f * 3, none⟩) 1 (c5 - f);go_cut [24] from 25 (fun s24 wx => s24 = .func (.func 88) #[] #[.pointer (some ⟨w3.heap.size, 0, none⟩)] ∧ wx = (w3.alloc (.cells #[.slice (some ⟨b, off + f * 3, none⟩) 1 (c5 - f)] 24)).drew)
 case first =>
  go_region_held3 (fun W' => W'.cell? ⟨b2, 0, none⟩ = some (.pointer (some ⟨m, 0, none⟩)) ∧ W'.cell? ⟨b3, 0, none⟩ = some (.int .i64 f) ∧ W'.cell? ⟨m, 0, none⟩ = some (.slice (some ⟨b, off, none⟩) p.length c5))
   (first | exact hs0 | exact HS.out _ (Zf (Zd hg23 _)) | exact HS.out _ (Zd (Zf hg23) _)) ((go_simp; go_at_call 60; refine (hsc _).mono ?_; rintro e w' ⟨rfl, rfl⟩))
  all_goals (go_wp2_with fail; go_meet)
  all_goals exact ⟨rfl, rfl⟩
 case rest =>
  obtain ⟨rfl, hwc⟩ := hcut;obtain ⟨cb, hcbe⟩ : ∃ cb, cb = w3.heap.size := ⟨_, rfl⟩
  have hsS : wc.heap.size = cb + 1 := by rw [hwc, hcbe]; simp [World.drew]
  have hcb : wc.heap[cb]? = some (.cells #[.slice (some ⟨b, off + f * 3, none⟩) 1 (c5 - f)] 24 (0, 0)) := by rw [hwc, hcbe]; exact World.alloc_heap_new w3 _
  have hg3c : w3.grownBy wc none := by rw [hwc]; exact Zf (World.grownBy_alloc w3 _ none)
  rw [← hcbe];have Hcb := hid (show cb = w.heap.size + 3 from hcbe.trans Hbb.out.2.2.2);have hobc : wc.heap[ob]? = some (.cells #[.slice none 0 0] 54 (0, 0)) := (hg3c.block ob (Ze hbo) (by simp)).trans hbo;have hg2c := Zc hg23 hg3c;have hgc := Zc Hg2.out hg2c;have hlow : Below w.heap.size w wc := Zk hgc;have Hg2c := hid hg2c;have Hgc := hid hgc;have hobl : ob < wc.heap.size := Ze hobc;have HHS := HS;clear hwc hcbe hg3c hbo hs0 hsc hg23 hrn hfw;go_wp2_with fail
  refine (wpIn_wide (n := 8)).1 (wpIn_rangeFunc_ownH rfl (by omega) (gf := 88) (lb := #[.pointer (some ⟨cb, 0, none⟩)]) rfl trivial (enters_of Tryz.func88 (by kernel_rfl) rfl)
                                 (Zdd 7 (by omega) cb w.heap.size [x] (.slice (some ⟨b, off + f * 3, none⟩) 1 (c5 - f)) w Hone.out wc hlow (by omega) (by have := Hcb.out; omega) ((Za hcb).1 0)) Zok (kpB_b (by have := Hcb.out; omega) (by omega)) (Below.refl _ _) (fun _ => rfl)
                                 (fun (pre : List (Pt4 w w.heap.size [x])) W => RetI wc ob (Xv p f (pre.map pj)) W)
                                 (fun _ _ _ => False) (Ztb hobl) (fun c => fun _ _ _ _ h _ _ => h) ⟨⟨_, hobc, ⟨rfl, .inl ⟨rfl, rfl⟩⟩⟩, .refl _ _⟩
                                 (fun y a' W => ∃ b7, wc.heap.size ≤ b7 ∧
                                  W.heap[b7]? = some (.cells #[.int .u8 y.1.2.1.op, .string ⟨y.1.2.1.dst.toArray⟩, .string ⟨y.1.2.1.a.toArray⟩, .string ⟨y.1.2.1.b.toArray⟩, .int .i64 y.1.2.1.n, .string ⟨y.1.2.1.fn.toArray⟩, y.1.2.2.1, y.1.2.2.2] 38 (0, 0)) ∧
                                  a' = { tmps := #[.pointer (some ⟨m, 0, none⟩), .int .i64 f, .pointer (some ⟨b2, 0, none⟩), .pointer (some ⟨b3, 0, none⟩), .slice none 0 0, .pointer (some ⟨ob, 0, none⟩), undef, .pointer (some ⟨b7, 0, none⟩), undef, undef, .pointer (some ⟨m, 0, none⟩), .int .i64 f, .bool true, .bool false, u14, u15, u16, u17, u18, u19, u20, u21, u22, u23, .func (.func 88) #[] #[.pointer (some ⟨cb, 0, none⟩)], ptA y.1.1, Ve y.1.2.1 y.1.2.2.1 y.1.2.2.2, u27, u28, u29, u30, u31, u32, u33, u34, u35, u36, u37, u38, u39, u40, u41, u42], defers := [] })
                                 ?hAx ?assign ?body ?done ?stop)
  case hAx =>
   rintro y a' _ X Y row hs hg hr;obtain ⟨b7, h1, h2, h3⟩ := hs
   exact ⟨b7, h1, (hg.block b7 (Ze h2) (fun e => by
                                             obtain ⟨_, o, ho, hc⟩ := hr b7 e.symm
                                             rw [h2] at ho
                                             cases ho
                                             cases hc)).trans h2, h3⟩
  case assign =>
   rintro l pre ⟨⟨pt, z, va, vl⟩, hi, hmp⟩ W K hI hK;have hi' : InsAt w w.heap.size z va vl := hi;obtain ⟨A4, d4, q4, -, -, -, -⟩ := hi'.args.open_;obtain ⟨A6, d6, q6, -, -, -, -⟩ := hi'.labels.open_;subst q4;subst q6;have hWs := hI.chg.size;have HI := hid hI;have hcbl : cb < W.heap.size := by omega
   have hwl : w.heap.size ≤ W.heap.size := by have := Hcb.out; omega
   clear hI;simp only [Zis, ptA, Ve];gi_wp2;have h7 := World.alloc_heap_new W (.cells #[.int .u8 z.op, .string ⟨z.dst.toArray⟩, .string ⟨z.a.toArray⟩, .string ⟨z.b.toArray⟩, .int .i64 z.n, .string ⟨z.fn.toArray⟩, .slice A4 z.args.length d4, .slice A6 z.labels.length d6] 38);exact hK _ _ ((KeepsOthers.alloc _ _).from _) ⟨(Below.refl _ W).alloc hwl _, Below.heap_alloc _ _ _ hcbl⟩
    (HI.out.keep (Q := fun _ => False) (Chg.alloc _ W _) (fun e => e) (fun _ _ e => e) (fun _ _ _ _ e => e)) ⟨W.heap.size, hWs, h7, rfl⟩
  case body =>
   rintro l pre ⟨⟨pt, z, va, vl⟩, hi, hmp⟩ a' W hlo hlr hI ⟨b7, h7, h8, ha'⟩ hpl;subst ha';have hi' : InsAt w w.heap.size z va vl := hi;obtain ⟨A4, d4, q4, -, -, -, -⟩ := hi'.args.open_;obtain ⟨A6, d6, q6, -, -, -, -⟩ := hi'.labels.open_;subst q4;subst q6;dsimp only [ptA, Ve] at h8 ⊢;have hWs := hI.chg.size;obtain ⟨k, -⟩ := Za h8;have k8a := k 0;have k8b := k 2;obtain ⟨v, hv1, hv2⟩ := hI.blk;obtain ⟨l2, l3, l4, l5⟩ := Hbb.out;have hcq := Hcb.out;obtain ⟨g2, g3, -⟩ := HHS.out wc Hg2c.out;have kb2 : W.cell? ⟨b2, 0, none⟩ = some (.pointer (some ⟨m, 0, none⟩)) := (World.cell?_of_block (hI.chg.block b2 (by omega) (by show ¬ b2 = ob; omega))).trans g2;have kb3 : W.cell? ⟨b3, 0, none⟩ = some (.int .i64 f) := (World.cell?_of_block (hI.chg.block b3 (by omega) (by show ¬ b3 = ob; omega))).trans g3;have hcW : Chg (fun n => n = ob) w W := (Chg.grown (Q := fun n => n = ob) Hgc.out (fun r e => by cases e)).trans hI.chg (fun _ _ e => e);have hvar := Zfl (HM.out.chg hcW (fun n _ hn e => by omega)) (f : Int) z.a;have Hfin := hid (show ∀ W' Q', (Xv p f ((pre ++ [(⟨(pt, z, Value.slice A4 z.args.length d4, Value.slice A6 z.labels.length d6), hi, hmp⟩ : Pt4 w w.heap.size [x])]).map pj)) = Q' → RetI wc ob Q' W' → RetI wc ob (Xv p f ((pre ++ [(⟨(pt, z, Value.slice A4 z.args.length d4, Value.slice A6 z.labels.length d6), hi, hmp⟩ : Pt4 w w.heap.size [x])]).map pj)) W' from fun W' Q' e h => e ▸ h)
   have Hmore := hid (show (Xv p f ((pre ++ [(⟨(pt, z, Value.slice A4 z.args.length d4, Value.slice A6 z.labels.length d6), hi, hmp⟩ : Pt4 w w.heap.size [x])]).map pj)) = if z.op = 14 then Xv p f (pre.map pj) ++ [(Zam p f z.a).1] else Xv p f (pre.map pj) from by
                          rw [List.map_append, List.map_cons, List.map_nil, Zne]
                          rfl)
   have hln : (Xv p f (pre.map pj)).length ≤ 4096 := by
    have h1 := Zcd p f (pre.map pj);have h2 := Hcnt.out;rw [List.length_map] at h1;omega
   have Hln := hid hln;have HI := hid hI;have Hv1 := hid hv1;have Hv2 := hid hv2;have hobW := Ze hv1;have hwW : w.heap.size ≤ ob ∧ w.heap.size < W.heap.size ∧ cb < W.heap.size := by omega
   clear hI hv1 hv2 k h8 hln hcW g2 g3 l2 l3 l4 l5 hcq
   by_cases ho : (z.op : Int) = 14
   ·have ho' : z.op = 14 := by omega
    gi_upto_region 8 with ((refine ⟨trivial, ?_⟩; gi_at_call 21; refine (CallsIn.inRound l (callsIn_wide.2 hvar)).mono ?_; rintro e w9 ⟨rfl, hg9⟩))
    have hv9 := (hg9.block ob hobW (by simp)).trans Hv1.out;obtain ⟨ko, fo⟩ := Za hv9;have ko0 := ko 0;obtain ⟨wA, hwA⟩ : ∃ wA, wA = w9.alloc (.cells #[.int .i64 (Zam p f z.a).1] 3) := ⟨_, rfl⟩
    have hgA : w9.grownBy wA none := by rw [hwA]; exact World.grownBy_alloc _ _ none
    have hbA : wA.heap[w9.heap.size]? = some (.cells #[.int .i64 (Zam p f z.a).1] 3 (0, 0)) := by rw [hwA]; exact World.alloc_heap_new _ _
    have hoA : wA.ownsRow wc.heap.size 3 1 v (Xv p f (pre.map pj)).length ((Xv p f (pre.map pj)).map Jd) := (Chg.grown (Q := fun _ => False) (Zc hg9 hgA) (fun r e => by cases e)).owns Hv2.out (fun _ _ e => e);have hs9 := hg9.size;have hsA := hgA.size;clear ko fo;have hown := fun g => Hv2.out.lt g
    have Hkp := hid (show ∀ W', wA.grownBy W' v.ownBlock → W'.heap[ob]? = some (.cells #[v] 54 (0, 0)) from fun W' hg => (hg.block ob (by omega) (fun e => by have := (hown ob e.symm).1; omega)).trans ((hgA.block ob (by omega) (by simp)).trans hv9));have Hown := hid hown;clear hown;gi_wp2_with (gi_at_builtin; go_must (rw [← hwA]; refine Zgd rfl (.tmp 38) (.tmp 40) 54 rfl wc.heap.size 3 _ 1 8 Tryz.underlying54 Zoh rfl (by decide) v _ _ rfl hoA w9.heap.size [Jd (Zam p f z.a).1] rfl (by simp [Jd, Value.oneCell']) rfl _ _ hbA rfl (by have := Hln.out; unfold maxLen; omega) (by have := Hln.out; omega) (by omega) ?_; intro g c' w10 h1 h2 h3; have hb10 := Hkp.out w10 h2; obtain ⟨kx, fx⟩ := Za hb10; have kx0 := kx 0; have fx0 := fx 0; clear kx fx));have hs10 := h2.size;have hov : ∀ n, v.ownBlock = some n → wc.heap.size ≤ n := fun n e => (Hown.out n e).1
    have hc1 : Chg (fun n => n = ob ∨ v.ownBlock = some n) W (w10.setCell ⟨ob, 0, none⟩ (.slice (some ⟨g, 0, none⟩) ((Xv p f (pre.map pj)).length + 1) c')) :=
     (((Chg.grown (Q := fun n => n = ob ∨ v.ownBlock = some n) hg9 (fun r e => by cases e)).trans (Chg.grown (Q := fun n => n = ob ∨ v.ownBlock = some n) hgA (fun r e => by cases e)) (fun _ _ e => e)).trans (Chg.grown (Q := fun n => n = ob ∨ v.ownBlock = some n) h2 (fun r e => .inr e)) (fun _ _ e => e)).trans (Chg.set (Q := fun n => n = ob ∨ v.ownBlock = some n) w10 (p := ⟨ob, 0, none⟩) (.inl rfl) _) (fun _ _ e => e)
    have ho10 := (Chg.set (Q := fun n => n = ob) w10 (p := ⟨ob, 0, none⟩) rfl (.slice (some ⟨g, 0, none⟩) ((Xv p f (pre.map pj)).length + 1) c')).owns h1 (fun n e => by have := (h1.lt n e).1; show ¬ n = ob; omega);refine ⟨?_, ⟨⟨hc1.os, hc1.tape, hc1.output, hc1.size, fun n hn => hc1.block n (by omega) (fun e => ?_)⟩, hc1.block cb (by omega) (fun e => ?_)⟩, ?_⟩
    ·exact (((Yv hg9 (fun r e => by cases e)).trans (Yv hgA (fun r e => by cases e))).trans ((Yv h2 (fun r e => Zht hoA e)).trans (KeepsOthers.setCell w10 ⟨ob, 0, none⟩ _))).from _
    ·rcases e with e | e
     ·omega
     ·have := hov n e; omega
    ·have hcq := Hcb.out;have hbb := Hbb.out
     rcases e with e | e
     ·omega
     ·have := hov cb e; omega
    ·refine Hfin.out _ _ (Hmore.out.trans (if_pos ho')) ⟨⟨_, Zs hb10 0 _, by simpa using ho10⟩, HI.out.chg.trans hc1 (fun n hn e => ?_)⟩
     rcases e with e | e
     ·exact e
     ·have := hov n e; omega
   ·have ho' : ¬ z.op = 14 := by omega
    gi_wp2_with fail;refine ⟨(KeepsOthers.refl _).from _, ⟨Below.refl _ _, rfl⟩, ?_⟩;refine Hfin.out W _ (Hmore.out.trans (if_neg ho')) HI.out
  case done =>
   rintro D xs W hD hS hI hK;rw [hS] at hI;obtain ⟨v, hv1, hv2⟩ := hI.blk;have hWs := hI.chg.size;obtain ⟨l2, l3, l4, l5⟩ := Hbb.out;have hcq := Hcb.out;have hcW : Chg (fun n => n = ob) w W := (Chg.grown (Q := fun n => n = ob) Hgc.out (fun r e => by cases e)).trans hI.chg (fun _ _ e => e);obtain ⟨ko, -⟩ := Za hv1;have ko0 := ko 0;have HcW := hid hcW;have HI := hid hI;have Hv2 := hid hv2;clear hI hcW hv1 hv2 ko l2 l3 l4 l5 hcq;go_wp2_with fail;refine ⟨by simp, .inl ⟨_, _, rfl, run_takeDeferred hK, ?_⟩⟩;have hcq := Hcb.out;have hbb := Hbb.out;have hcD : Chg (fun n => n = D) W (W.putObj D (.deferred none)) := Chg.turned (Q := fun n => n = D) (Turned.putObj _ D _) rfl;refine ⟨v, by simp [results, Tryz.f45, go_sem], v, rfl, ?_, ?_⟩
   ·refine Qi (hcD.owns Hv2.out (fun g e => ?_)) (by omega);show ¬ g = D;rintro rfl;obtain ⟨cs, t, fr, hk⟩ := Zht Hv2.out e;rw [hk] at hK
    cases hK
   ·exact Chg.all (Chg.trans (Q := fun n => n = ob ∨ n = D) (HcW.out.mono (fun n _ e => .inl e)) hcD (fun n _ e => .inr e)) (fun n hn e => by omega)
  case stop =>
   rintro D c pre W hD hS hX hK;exact hX.elim
end Go.Proofs.YtiheiaaifdjpeaaGreat

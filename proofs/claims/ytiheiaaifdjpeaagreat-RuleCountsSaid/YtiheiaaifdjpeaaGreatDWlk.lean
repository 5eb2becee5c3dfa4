/- Contracts of names.walk's funcs and of the rules that go by it. Conditions: the program lies in memory; closures by their contracts. -/
import Derived.Test.YtiheiaaifdjpeaaGreatDBase
import Derived.RangeFuncNested
import Derived.RangeFuncBound
import Derived.RangeFuncCalls
import Derived.RangeFuncLeaves
import Derived.Shelf.RegionOpen
import Derived.OwnWalkIn
import Derived.TacticsInMore
import Derived.LoopNIn
import Derived.LoopIn
set_option linter.unusedVariables false
set_option linter.unusedSimpArgs false
set_option maxHeartbeats 2000000
set_option maxRecDepth 100000
namespace Go.Proofs.YtiheiaaifdjpeaaGreat
open Lib(hid)
open Go.RowKit
def ptC (o : Option (Nat × Nat × Nat)) : Array Value := match o with
 | some (f, b, i) => #[.int .i64 f, .int .i64 b, .int .i64 i]
 | none => #[.int .i64 0, .int .i64 0, .int .i64 0]
def ptV (o : Option (Nat × Nat × Nat)) : Value := .tuple #[.agg (ptC o), .bool o.isSome]
theorem Zhl (p : GProg) (vp vm : Value) (B wb g : Nat) (lb : Array Value) (w : World) (row : Option Nat) (J : Nat → World → Prop) (q : Nat → Bool) (hB : B ≤ w.heap.size) (h : WalkAt w B wb p vp vm)
  (hrow : ∀ r, row = some r → B ≤ r ∧ r < w.heap.size)
  (eg : ∀ args w, (callFunc g args).run Tryz.prog w = .ok (.enter g args) w)
  (hJ : ∀ k W W', J k W → W.grownBy W' none → J k W') (h0 : J 0 w)
  (hp : ∀ k (x : GFun) fp fb W, p[k]? = some x → J k W → w.grownBy W row → FunAt W B x fp fb → k ≤ 9223372036854775807 →
   Calls Tryz.prog g (#[.int .i64 k, .agg #[.string ⟨x.name.toArray⟩, fp, fb]] ++ lb) W fun e W' => e = .returned (.bool (q k)) ∧ J (k + 1) W' ∧ W.grownBy W' row) :
  Calls Tryz.prog 163 #[.pointer (some ⟨wb, 0, none⟩), .func (.func g) #[] lb] w fun e w' => e = .returned (ptV (Zp p fun i _ => if q i then some (i, 0, 0) else none)) ∧ w.grownBy w' row := by
 obtain ⟨A, c, rfl, hm, hlc, hcm, hA⟩ := h.prog.open_;have c0 := h.c0;have hlt : wb < w.heap.size := by have := h.lt; omega
 have hne : wb ≠ w.heap.size := by omega
 clear h;go_enter Tryz.func163, Tryz.ntmps163;go_wp2;go_loopw [14] (fun s8 wr => ∃ k : Nat, k ≤ p.length ∧ s8 = .int .i64 k ∧ Hid ((w.alloc (.cells #[.int .i64 0, .int .i64 0, .int .i64 0] 42)).grownBy wr row) ∧ Hid (J k wr) ∧ Hid (∀ j, j < k → ∀ y, p[j]? = some y → q j = false)) (fun s8 _ => p.length - (intOf s8).toNat)
 case atStart => exact ⟨0, Nat.zero_le _, rfl, World.grownBy.refl _ _, hJ 0 w _ h0 (World.grownBy_alloc _ _ _), Zz⟩
 case round =>
  obtain ⟨k, hkl, rfl, hg, hj, hP⟩ := hrel;have hsz : w.heap.size < wr.heap.size := by have := hg.out.size; simp at this; omega
  have hblk : wr.heap[w.heap.size]? = some (.cells #[.int .i64 0, .int .i64 0, .int .i64 0] 42 (0, 0)) :=
   (hg.out.block _ (by simp) (fun e => by have := (hrow _ e.symm).2; omega)).trans (World.alloc_heap_new w _)
  have hA' : ProgAt wr B (.slice A p.length c) p := by
   refine hA.keep funR.keeps fun a ha => ?_
   refine (World.cell?_of_block (hg.out.block a.block (by simp; omega) (fun e => by have := (hrow _ e.symm).1; omega))).trans ?_;exact World.cell?_alloc_lt w _ a (by omega)
  by_cases hl : k < p.length
  ·obtain ⟨x, b, off, hx, rfl, hbB, fp, fb, hf, e0, e1, e2⟩ := hA'.at_ hl;obtain ⟨A1, d1, rfl, m1, n1, o1, _⟩ := hf.params.open_;obtain ⟨A2, d2, rfl, m2, n2, o2, _⟩ := hf.blocks.open_;have hgw : w.grownBy wr row := Zc (World.grownBy_alloc w _ row) hg.out;have hcall := hp k x _ _ (wr.alloc (.cells #[.string ⟨x.name.toArray⟩, .slice A1 x.params.length d1, .slice A2 x.blocks.length d2] 58)) hx (hJ _ _ _ hj.out (World.grownBy_alloc _ _ _)) (Zc hgw (World.grownBy_alloc _ _ _))
    (hf.keep fun a ha => World.cell?_alloc_lt wr _ a (by omega)) (by omega)
   have hblk2 : (wr.alloc (.cells #[.string ⟨x.name.toArray⟩, .slice A1 x.params.length d1, .slice A2 x.blocks.length d2] 58)).heap[w.heap.size]? = some (.cells #[.int .i64 0, .int .i64 0, .int .i64 0] 42 (0, 0)) :=
    (Below.heap_alloc wr _ _ hsz).trans hblk
   have hg2 := Zc hg.out (World.grownBy_alloc wr (.cells #[.string ⟨x.name.toArray⟩, .slice A1 x.params.length d1, .slice A2 x.blocks.length d2] 58) row);have Hx := hid hx;have Hb2 := hid hblk2;have Hg2 := hid hg2;clear hx hblk hblk2 hg2 hp hA hA' hgw
   cases hq : q k with
   | true =>
    rw [hq] at hcall;go_wp2_with (go_at_fn g; refine hcall.mono ?_; rintro e w' ⟨rfl, hj', hg'⟩; obtain ⟨hb1, hb2⟩ := Za ((hg'.block w.heap.size (by simp; omega) (fun e => by have := (hrow _ e.symm).2; omega)).trans Hb2.out));refine bodyPost_ret (v := ptV (some (k, 0, 0))) (by simp [results, Tryz.results163, go_sem, ptV, ptC, hb1]) rfl ⟨?_, ?_⟩
    ·rw [Zn (fun j hj y hy => by rw [hP.out j hj y hy]; rfl) Hx.out (by rw [if_pos hq])]
    ·exact Zh (Zh (Zh (Zc (Zt Hg2.out) hg') (Nat.le_refl _) _) (Nat.le_refl _) _) (Nat.le_refl _) _
   | false =>
    rw [hq] at hcall;go_wp2_with (go_at_fn g; refine hcall.mono ?_; rintro e w' ⟨rfl, hj', hg'⟩);go_roundw
    case rel => exact ⟨k + 1, by omega, by go_num, Zc Hg2.out hg', hj', Zw Hx.out hP.out hq⟩
    case measure => simp [intOf]; omega
  ·obtain ⟨hb1, hb2⟩ := Za hblk;go_wp2_with fail;refine bodyPost_ret (v := ptV none) (by simp [results, Tryz.results163, go_sem, ptV, ptC, hb1]) rfl ⟨?_, ?_⟩
   ·rw [Zx (fun j hj y hy => by rw [hP.out j (by omega) y hy]; rfl)]
   ·exact Zh (Zh (Zh (Zt hg.out) (Nat.le_refl _) _) (Nat.le_refl _) _) (Nat.le_refl _) _
end Go.Proofs.YtiheiaaifdjpeaaGreat
namespace Go.Proofs.YtiheiaaifdjpeaaGreat
open Lib(hid)
open Go.RowKit Go.Shelf
attribute [local go_sem] Oper.semAt_some
abbrev Pt4 (w0 : World) (B : Nat) (p : GProg) : Type := { x : GPt × GIns × Value × Value // InsAt w0 B x.2.1 x.2.2.1 x.2.2.2 ∧ (x.1, x.2.1) ∈ pts p }
def pj {w0 : World} {B : Nat} {p : GProg} (x : Pt4 w0 B p) : GPt × GIns := (x.1.1, x.1.2.1)
def ptA (pt : GPt) : Value := .agg #[.int .i64 pt.1, .int .i64 pt.2.1, .int .i64 pt.2.2]
def Ve (x : GIns) (va vl : Value) : Value := .agg #[.int .u8 x.op, .string ⟨x.dst.toArray⟩, .string ⟨x.a.toArray⟩, .string ⟨x.b.toArray⟩, .int .i64 x.n, .string ⟨x.fn.toArray⟩, va, vl]
def Zis {w0 : World} {B : Nat} {p : GProg} (x : Pt4 w0 B p) : Array Value := #[ptA x.1.1, Ve x.1.2.1 x.1.2.2.1 x.1.2.2.2]
theorem Zpg (n : Nat) (hn : 1 ≤ n) (l cb wb B : Nat) (p : GProg) (vp vm : Value) (w0 : World) (h : WalkAt w0 B wb p vp vm) (J Jx : List (Pt4 w0 B p) → World → Prop) (hJa : ∀ s W o, J s W → J s (W.alloc o))
  (hY : ∀ pre x W, J pre W → pre.length < (pts p).length → YieldAt Fence.wide (n - 1) Tryz.prog l (Zis x) W fun e W' =>
   (e = .returned (.bool true) ∧ J (pre ++ [x]) W' ∧ Below B W W') ∨ (e = .returned (.bool false) ∧ Jx (pre ++ [x]) W'))
  (W : World) (hW : Below B w0 W) (hBW : B ≤ W.heap.size) (hc : W.cell? ⟨cb, 0, none⟩ = some (.pointer (some ⟨wb, 0, none⟩))) (h0 : J [] W) :
  CallsIn Fence.wide n Tryz.prog 236 #[.func (.yield l) #[] #[], .pointer (some ⟨cb, 0, none⟩)] W fun e W' => (∃ v, e = .returned v) ∧
   ((∃ xs, xs.map pj = pts p ∧ J xs W') ∨ (∃ pre, pre.map pj <+: pts p ∧ Jx pre W')) := by
 obtain ⟨A, c, rfl, hm, hlc, hcm, hA⟩ := h.prog.open_;have c0 := cur hW h.lt h.c0;have hJs := hJa;have hYs := hY;have hJh := hid hJa;have hYh := hid hY;clear h hJa hY hJs hYs;refine callsIn_of_wp Tryz.func236 rfl trivial ?_ rfl;simp only [Tryz.ntmps236, List.size_toArray, List.length_cons, List.length_nil, Nat.reduceAdd, Nat.reduceSub, Array.replicate_succ, Array.replicate_zero, List.push_toArray, List.append_toArray, List.nil_append, List.cons_append];gi_wp2;gi_loopw [15] (fun s8 wr => ∃ k : Nat, k ≤ p.length ∧ s8 = .int .i64 k ∧ Hid (Below B W wr ∧ B ≤ wr.heap.size) ∧ Hid (∃ xs, xs.map pj = Xx p k ∧ J xs wr)) (fun s8 _ => p.length - (intOf s8).toNat)
 case atStart => exact ⟨0, Nat.zero_le _, rfl, ⟨Below.refl _ _, hBW⟩, [], by simp [Qz], h0⟩
 case round =>
  obtain ⟨k, hkl, rfl, hg, hX⟩ := hrel;have hb := hW.trans hg.out.1;have hBr := hg.out.2
  by_cases hl : k < p.length
  ·obtain ⟨x, b, off, hx, rfl, hbB, hr⟩ := hA.at_ hl;obtain ⟨A1, d1, A2, d2, hf, m1, m2, e0, e1, e2⟩ := Yh hr;have hbne : b ≠ wr.heap.size := by omega
   replace e0 := cur hb hbB e0;replace e1 := cur hb hbB e1;replace e2 := cur hb hbB e2;have Hx := hid hx;have hB2 := hf.blocks;have Hg2 := hid (show Below B W (wr.alloc (.cells #[.string ⟨x.name.toArray⟩, .slice A1 x.params.length d1, .slice A2 x.blocks.length d2] 58)) ∧ B ≤ (wr.alloc (.cells #[.string ⟨x.name.toArray⟩, .slice A1 x.params.length d1, .slice A2 x.blocks.length d2] 58)).heap.size from ⟨hg.out.1.alloc hBr _, by simp; omega⟩)
   have HX2 := hid (show ∃ xs, xs.map pj = X9 p k x.blocks 0 ∧ J xs (wr.alloc (.cells #[.string ⟨x.name.toArray⟩, .slice A1 x.params.length d1, .slice A2 x.blocks.length d2] 58)) from by
                        obtain ⟨xs, h1, h2⟩ := hX.out
                        exact ⟨xs, by rw [h1, Zcx], hJh.out _ _ _ h2⟩)
   clear hx hr hb hf;gi_wp2;obtain ⟨wo, hwo⟩ : ∃ wo : World, wo = wr.alloc (.cells #[.string ⟨x.name.toArray⟩, .slice A1 x.params.length d1, .slice A2 x.blocks.length d2] 58) := ⟨_, rfl⟩
   rw [← hwo] at Hg2 HX2 ⊢;clear hwo e0 e1 e2 hbne hBr;gi_loopw [23] (fun s8 wr => ∃ k2 : Nat, k2 ≤ x.blocks.length ∧ s8 = .int .i64 k2 ∧ Hid (Below B W wr ∧ B ≤ wr.heap.size) ∧ Hid (∃ xs, xs.map pj = X9 p k x.blocks k2 ∧ J xs wr)) (fun s8 _ => x.blocks.length - (intOf s8).toNat)
   case atStart => exact ⟨0, Nat.zero_le _, rfl, Hg2.out, HX2.out⟩
   case round =>
    obtain ⟨k2, hkl2, rfl, hg2, hX2⟩ := hrel;have hb := hW.trans hg2.out.1;have hBr := hg2.out.2
    by_cases hl2 : k2 < x.blocks.length
    ·obtain ⟨y, b2, off2, hy, rfl, hbB2, hr2⟩ := hB2.at_ hl2;obtain ⟨A3, d3, hf2, m3, e0, e1⟩ := Yg hr2;have hbne2 : b2 ≠ wr.heap.size := by omega
     replace e0 := cur hb hbB2 e0;replace e1 := cur hb hbB2 e1;have Hy := hid hy;have hB3 := hf2.code;have Hg3 := hid (show Below B W (wr.alloc (.cells #[.string ⟨y.label.toArray⟩, .slice A3 y.code.length d3] 61)) ∧ B ≤ (wr.alloc (.cells #[.string ⟨y.label.toArray⟩, .slice A3 y.code.length d3] 61)).heap.size from ⟨hg2.out.1.alloc hBr _, by simp; omega⟩)
     have HX3 := hid (show ∃ xs, xs.map pj = Xo p k x.blocks k2 y.code 0 ∧ J xs (wr.alloc (.cells #[.string ⟨y.label.toArray⟩, .slice A3 y.code.length d3] 61)) from by
                          obtain ⟨xs, h1, h2⟩ := hX2.out
                          exact ⟨xs, by rw [h1, Zcy], hJh.out _ _ _ h2⟩)
     clear hy hr2 hb hf2;gi_wp2;obtain ⟨wo2, hwo2⟩ : ∃ wo2 : World, wo2 = wr.alloc (.cells #[.string ⟨y.label.toArray⟩, .slice A3 y.code.length d3] 61) := ⟨_, rfl⟩
     rw [← hwo2] at Hg3 HX3 ⊢;clear hwo2 e0 e1 hbne2 hBr;gi_loopw [31] (fun s8 wr => ∃ k3 : Nat, k3 ≤ y.code.length ∧ s8 = .int .i64 k3 ∧ Hid (Below B W wr ∧ B ≤ wr.heap.size) ∧ Hid (∃ xs, xs.map pj = Xo p k x.blocks k2 y.code k3 ∧ J xs wr)) (fun s8 _ => y.code.length - (intOf s8).toNat)
     case atStart => exact ⟨0, Nat.zero_le _, rfl, Hg3.out, HX3.out⟩
     case round =>
      obtain ⟨k3, hkl3, rfl, hg3, hX3⟩ := hrel;have hb := hW.trans hg3.out.1;have hBr := hg3.out.2
      by_cases hl3 : k3 < y.code.length
      ·obtain ⟨z, b3, off3, hz, rfl, hbB3, hr3⟩ := hB3.at_ hl3;obtain ⟨A4, d4, A5, d5, hf3, m4, m5, e0, e1, e2, e3, e4, e5, e6, e7⟩ := Y8 hr3;have hbne3 : b3 ≠ wr.heap.size := by omega
       replace e0 := cur hb hbB3 e0;replace e1 := cur hb hbB3 e1;replace e2 := cur hb hbB3 e2;replace e3 := cur hb hbB3 e3;replace e4 := cur hb hbB3 e4;replace e5 := cur hb hbB3 e5;replace e6 := cur hb hbB3 e6;replace e7 := cur hb hbB3 e7;obtain ⟨xs, hxs, hJx⟩ := hX3.out;obtain ⟨q, hq⟩ : ∃ q : Pt4 w0 B p, q = ⟨((k, k2, k3), z, .slice A4 z.args.length d4, .slice A5 z.labels.length d5), hf3, Js Hx.out Hy.out hz⟩ := ⟨_, rfl⟩
       have hpq : pj q = ((k, k2, k3), z) := by rw [hq]; rfl
       have hpre : (xs ++ [q]).map pj <+: pts p := by
        rw [List.map_append, hxs, List.map_cons, List.map_nil, hpq];exact V0 Hx.out Hy.out hz
       have hlen : xs.length < (pts p).length := by
        have := hpre.length_le;simp at this;omega
       obtain ⟨fn, tmps, assign, body, hy9, hR⟩ := hYh.out xs q (wr.alloc (.cells #[.int .u8 z.op, .string ⟨z.dst.toArray⟩, .string ⟨z.a.toArray⟩, .string ⟨z.b.toArray⟩, .int .i64 z.n, .string ⟨z.fn.toArray⟩, .slice A4 z.args.length d4, .slice A5 z.labels.length d5] 38)) (hJh.out _ _ _ hJx) hlen;have he : Zis q = #[.agg #[.int .i64 k, .int .i64 k2, .int .i64 k3], .agg #[.int .u8 z.op, .string ⟨z.dst.toArray⟩, .string ⟨z.a.toArray⟩, .string ⟨z.b.toArray⟩, .int .i64 z.n, .string ⟨z.fn.toArray⟩, .slice A4 z.args.length d4, .slice A5 z.labels.length d5]] := by
        rw [hq]; rfl
       rw [he] at hy9;have Hxs := hid (show (xs ++ [q]).map pj = Xo p k x.blocks k2 y.code (k3 + 1) by rw [List.map_append, hxs, List.map_cons, List.map_nil, hpq, Q0 hz]);have Hpre := hid hpre;clear hz hr3 hf3 hq hpq hpre he hxs hlen hb;gi_wp2;refine hR.mono ?_;rintro e W3 (⟨rfl, hJ3, hk3⟩ | ⟨rfl, hJx3⟩)
       ·gi_wp2;go_roundw
        case rel => exact ⟨k3 + 1, by omega, by go_num, ⟨(hg3.out.1.alloc hBr _).trans hk3, by have := hk3.size; simp at this; omega⟩, _, Hxs.out, hJ3⟩
        case measure => simp [intOf]; omega
       ·gi_wp2;refine bodyPost_ret (results_none rfl _ _ _) rfl ?_;exact ⟨⟨_, rfl⟩, .inr ⟨_, Hpre.out, hJx3⟩⟩
      ·have HXn := hid (show ∃ xs, xs.map pj = X9 p k x.blocks (k2 + 1) ∧ J xs wr by
                            obtain ⟨xs, h1, h2⟩ := hX3.out
                            exact ⟨xs, by rw [h1, Zcw Hy.out hl3], h2⟩)
       clear hb;gi_wp2;go_roundw
       case rel => exact ⟨k2 + 1, by omega, by go_num, hg3.out, HXn.out⟩
       case measure => simp [intOf]; omega
    ·have HXn := hid (show ∃ xs, xs.map pj = Xx p (k + 1) ∧ J xs wr by
                          obtain ⟨xs, h1, h2⟩ := hX2.out
                          exact ⟨xs, by rw [h1, Jj Hx.out hl2], h2⟩)
     clear hb;gi_wp2;go_roundw
     case rel => exact ⟨k + 1, by omega, by go_num, hg2.out, HXn.out⟩
     case measure => simp [intOf]; omega
  ·clear hb;gi_wp2;go_end0;obtain ⟨xs, h1, h2⟩ := hX.out;exact ⟨⟨_, rfl⟩, .inl ⟨xs, by rw [h1, Zaj hl], h2⟩⟩
end Go.Proofs.YtiheiaaifdjpeaaGreat

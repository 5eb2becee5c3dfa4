/- What package rule says of an instruction, in plain Lean; how its maker lies in memory. No condition. -/
import Derived.Test.YtiheiaaifdjpeaaGreatDMet
set_option linter.unusedVariables false
set_option linter.unusedSimpArgs false
set_option linter.unusedSectionVars false
set_option maxHeartbeats 4000000
set_option maxRecDepth 100000
namespace Go.Proofs.YtiheiaaifdjpeaaGreat
open Lib(hid)
open Go.RowKit Go.Shelf
theorem Zqs {w : World} {base : Nat} {v : Value} {l : List Nat} (h : w.ownsRow base 3 1 v l.length (l.map Z3)) (hb : ∀ x ∈ l, x ≤ 9223372036854775807) : SlAt natR 1 w w.heap.size v l := by
 refine SlAt.of_ownN h rfl (fun g e => (h.lt g e).2) fun g k x e hx => ?_
 obtain ⟨A', c', rfl, _, _, h0, h1⟩ := Zr h
 cases A' with
 | none => simp [Value.ownBlock] at e
 | some a =>
  obtain ⟨ha, -, -⟩ := h1 a rfl;rw [ha] at h e;simp only [Value.ownBlock, Option.map_some, Option.some.injEq] at e;obtain ⟨_, _, _, _, h6⟩ := Y2 h;have hc := h6 k (Z3 x) (by rw [List.getElem?_map, hx]; rfl);rw [← e];refine ⟨?_, hb x (List.mem_of_getElem? hx)⟩;rw [Nat.mul_one];exact hc
structure GRel where
 kind : Nat
 a : Int
 b : Int
 k : Int
structure GDial where
 at_ : GPt
 A : Option Addr
 c : Nat
 args : List Int
 dst : Int
def GDial.row (d : GDial) : Value := .slice d.A d.args.length d.c
def Vr (r : GRel) : List Value := [.int .u8 r.kind, .int .i64 r.a, .int .i64 r.b, .int .i64 r.k]
def Vq (d : GDial) : List Value := [.int .i64 d.at_.1, .int .i64 d.at_.2.1, .int .i64 d.at_.2.2, .slice d.A d.args.length d.c, .int .i64 d.dst]
def vN (p : GProg) (f : Nat) (s : Str) : Int := (Zam p f s).1
def V5 (r : GRel) (l : List Int) : List GRel := if l.all (fun x => decide (0 ≤ x)) then [r] else []
def Xd (a b : Int) : List GRel := V5 ⟨2, a, b, 0⟩ [a, b]
theorem infoRel : (Tryz.prog.info? 84).map (fun i => (i.zero, i.size, i.bytes)) = some (some (.agg #[.int .u8 0, .int .i64 0, .int .i64 0, .int .i64 0]), 4, 32) := by kernel_rfl
theorem Zrw : (Tryz.prog.info? 82).map (fun i => (i.zero, i.size, i.bytes)) = some (some (.agg #[.int .i64 0, .int .i64 0, .int .i64 0, .slice none 0 0, .int .i64 0]), 5, 56) := by kernel_rfl
def MkQ (kb : Nat) (vL vD : Value) : Nat → Prop := fun n => n = kb ∨ vL.ownBlock = some n ∨ vD.ownBlock = some n
structure MkE (wE : World) (base kb lo Bi m : Nat) (p : GProg) (pt : GPt) (z : GIns) (va vl vL0 vD0 : Value) : Prop where
 map : ∀ W', Chg (MkQ kb vL0 vD0) wE W' → MapL lo W' m p
 ins : ∀ W', Chg (MkQ kb vL0 vD0) wE W' → InsAt W' Bi z va vl
 kbb : kb < base
 bE : base ≤ wE.heap.size
 bI : Bi ≤ wE.heap.size
structure MkS (wE : World) (base kb m : Nat) (pt : GPt) (z : GIns) (va vl vL0 vD0 : Value) (W : World) (vL vD : Value) (R : List GRel) (D : List GDial) : Prop where
 blk : W.heap[kb]? = some (.cells #[.pointer (some ⟨m, 0, none⟩), .int .i64 pt.1, .int .i64 pt.2.1, .int .i64 pt.2.2, .int .u8 z.op, .string ⟨z.dst.toArray⟩, .string ⟨z.a.toArray⟩, .string ⟨z.b.toArray⟩, .int .i64 z.n, .string ⟨z.fn.toArray⟩, va, vl, vL, vD] 120 (0, 0))
 ol : W.ownsRow base 84 4 vL R.length (R.flatMap Vr)
 od : W.ownsRow base 82 5 vD D.length (D.flatMap Vq)
 ap : Apart vL vD
 ar : ∀ d ∈ D, W.ownsRow base 3 1 d.row d.args.length (d.args.map Jd) ∧ Apart vL d.row ∧ Apart vD d.row
 chg : Chg (MkQ kb vL0 vD0) wE W
 fl : ∀ g, vL.ownBlock = some g → vL0.ownBlock = some g ∨ wE.heap.size ≤ g
 fd : ∀ g, vD.ownBlock = some g → vD0.ownBlock = some g ∨ wE.heap.size ≤ g
section
variable {wE : World} {base kb lo Bi m : Nat} {p : GProg} {pt : GPt} {z : GIns} {va vl vL0 vD0 : Value} {W W' : World} {vL vD v' : Value} {R : List GRel} {D : List GDial}
theorem MkS.grow (h : MkS wE base kb m pt z va vl vL0 vD0 W vL vD R D) (hg : W.grownBy W' none) : MkS wE base kb m pt z va vl vL0 vD0 W' vL vD R D := by
 have hc : Chg (fun _ => False) W W' := Chg.grown hg (fun r e => by cases e);exact ⟨hc.at_ h.blk (fun e => e), hc.owns h.ol (fun _ _ e => e), hc.owns h.od (fun _ _ e => e), h.ap, fun d hd => ⟨hc.owns (h.ar d hd).1 (fun _ _ e => e), (h.ar d hd).2⟩, h.chg.trans hc (fun _ _ e => e.elim), h.fl, h.fd⟩
theorem MkS.cell (h : MkS wE base kb m pt z va vl vL0 vD0 W vL vD R D) (hg : W.grownBy W' none) (j : Nat) : W'.cell? ⟨kb, j, none⟩ = #[.pointer (some ⟨m, 0, none⟩), .int .i64 pt.1, .int .i64 pt.2.1, .int .i64 pt.2.2, .int .u8 z.op, .string ⟨z.dst.toArray⟩, .string ⟨z.a.toArray⟩, .string ⟨z.b.toArray⟩, .int .i64 z.n, .string ⟨z.fn.toArray⟩, va, vl, vL, vD][j]? :=
 (Za (h.grow hg).blk).1 j
theorem MkS.map (h : MkS wE base kb m pt z va vl vL0 vD0 W vL vD R D) (E : MkE wE base kb lo Bi m p pt z va vl vL0 vD0) (hg : W.grownBy W' none) : MapL lo W' m p := E.map W' (h.grow hg).chg
theorem MkS.ins (h : MkS wE base kb m pt z va vl vL0 vD0 W vL vD R D) (E : MkE wE base kb lo Bi m p pt z va vl vL0 vD0) (hg : W.grownBy W' none) : InsAt W' Bi z va vl := E.ins W' (h.grow hg).chg
theorem MkS.lt (h : MkS wE base kb m pt z va vl vL0 vD0 W vL vD R D) (E : MkE wE base kb lo Bi m p pt z va vl vL0 vD0) : base ≤ W.heap.size := Nat.le_trans E.bE h.chg.size
theorem MkS.join (h : MkS wE base kb m pt z va vl vL0 vD0 W vL vD R D) (hc : Chg (MkQ kb vL vD) W W') : Chg (MkQ kb vL0 vD0) wE W' := h.chg.trans hc (fun n hn e => by
                                                                                                                                                      rcases e with e | e | e
                                                                                                                                                      ·exact .inl e
                                                                                                                                                      ·rcases h.fl n e with e | e
                                                                                                                                                       ·exact .inr (.inl e)
                                                                                                                                                       ·omega
                                                                                                                                                      ·rcases h.fd n e with e | e
                                                                                                                                                       ·exact .inr (.inr e)
                                                                                                                                                       ·omega)
theorem MkE.re (E : MkE wE base kb lo Bi m p pt z va vl vL0 vD0) (h : MkS wE base kb m pt z va vl vL0 vD0 W vL vD R D) : MkE W base kb lo Bi m p pt z va vl vL vD :=
 ⟨fun W' hc => E.map W' (h.join hc), fun W' hc => E.ins W' (h.join hc), E.kbb, Nat.le_trans E.bE h.chg.size, Nat.le_trans E.bI h.chg.size⟩
theorem MkS.re (h : MkS wE base kb m pt z va vl vL0 vD0 W vL vD R D) : MkS W base kb m pt z va vl vL vD W vL vD R D :=
 ⟨h.blk, h.ol, h.od, h.ap, h.ar, Chg.refl _ _, fun _ e => .inl e, fun _ e => .inl e⟩
theorem MkS.back {vL' vD' : Value} {R' : List GRel} {D' : List GDial} (h : MkS wE base kb m pt z va vl vL0 vD0 W vL vD R D) (k : MkS W base kb m pt z va vl vL vD W' vL' vD' R' D') : MkS wE base kb m pt z va vl vL0 vD0 W' vL' vD' R' D' where
 blk := k.blk
 ol := k.ol
 od := k.od
 ap := k.ap
 ar := k.ar
 chg := h.join k.chg
 fl := fun g e => by
  rcases k.fl g e with e | e
  ·exact h.fl g e
  ·exact .inr (Nat.le_trans h.chg.size e)
 fd := fun g e => by
  rcases k.fd g e with e | e
  ·exact h.fd g e
  ·exact .inr (Nat.le_trans h.chg.size e)
theorem MkS.other {Q : Nat → Prop} (h : MkS wE base kb m pt z va vl vL0 vD0 W vL vD R D) (hc : Chg Q W W') (h0 : ¬ Q kb) (h1 : ∀ g, vL.ownBlock = some g → ¬ Q g) (h2 : ∀ g, vD.ownBlock = some g → ¬ Q g) (h3 : ∀ n, n < wE.heap.size → ¬ Q n) (h4 : ∀ d ∈ D, ∀ g, d.row.ownBlock = some g → ¬ Q g) : MkS wE base kb m pt z va vl vL0 vD0 W' vL vD R D :=
 ⟨hc.at_ h.blk h0, hc.owns h.ol h1, hc.owns h.od h2, h.ap, fun d hd => ⟨hc.owns (h.ar d hd).1 (h4 d hd), (h.ar d hd).2⟩, h.chg.trans hc (fun n hn e => absurd e (h3 n hn)), h.fl, h.fd⟩
theorem MkS.pushL (h : MkS wE base kb m pt z va vl vL0 vD0 W vL vD R D) (E : MkE wE base kb lo Bi m p pt z va vl vL0 vD0) {r : GRel}
  (hb : W'.heap[kb]? = some (.cells #[.pointer (some ⟨m, 0, none⟩), .int .i64 pt.1, .int .i64 pt.2.1, .int .i64 pt.2.2, .int .u8 z.op, .string ⟨z.dst.toArray⟩, .string ⟨z.a.toArray⟩, .string ⟨z.b.toArray⟩, .int .i64 z.n, .string ⟨z.fn.toArray⟩, va, vl, v', vD] 120 (0, 0)))
  (hc : Chg (fun n => n = kb ∨ vL.ownBlock = some n) W W') (ho : W'.ownsRow base 84 4 v' (R ++ [r]).length ((R ++ [r]).flatMap Vr)) (hn : ∀ g, v'.ownBlock = some g → vL.ownBlock = some g ∨ W.heap.size ≤ g) :
  MkS wE base kb m pt z va vl vL0 vD0 W' v' vD (R ++ [r]) D where
 blk := hb
 ol := ho
 od := hc.owns h.od (fun g hg e => by
                     rcases e with e | e
                     ·have := (h.od.lt g hg).1; have := E.kbb; omega
                     ·exact h.ap.no hg e)
 ap := h.ap.turn h.od hn
 ar := fun d hd => by
  obtain ⟨a1, a2, a3⟩ := h.ar d hd;refine ⟨hc.owns a1 (fun g hg e => ?_), a2.turn a1 hn, a3⟩
  rcases e with e | e
  ·have := (a1.lt g hg).1; have := E.kbb; omega
  ·exact a2.no hg e
 chg := h.chg.trans hc (fun n hn' e => by
                        rcases e with e | e
                        ·exact .inl e
                        ·rcases h.fl n e with e | e
                         ·exact .inr (.inl e)
                         ·omega)
 fl := fun g e => by
  rcases hn g e with e | e
  ·exact h.fl g e
  ·exact .inr (Nat.le_trans h.chg.size e)
 fd := h.fd
theorem MkS.pushD (h : MkS wE base kb m pt z va vl vL0 vD0 W vL vD R D) (E : MkE wE base kb lo Bi m p pt z va vl vL0 vD0) {d : GDial}
  (hb : W'.heap[kb]? = some (.cells #[.pointer (some ⟨m, 0, none⟩), .int .i64 pt.1, .int .i64 pt.2.1, .int .i64 pt.2.2, .int .u8 z.op, .string ⟨z.dst.toArray⟩, .string ⟨z.a.toArray⟩, .string ⟨z.b.toArray⟩, .int .i64 z.n, .string ⟨z.fn.toArray⟩, va, vl, vL, v'] 120 (0, 0)))
  (hc : Chg (fun n => n = kb ∨ vD.ownBlock = some n) W W') (ho : W'.ownsRow base 82 5 v' (D ++ [d]).length ((D ++ [d]).flatMap Vq)) (hn : ∀ g, v'.ownBlock = some g → vD.ownBlock = some g ∨ W.heap.size ≤ g)
  (hr : W'.ownsRow base 3 1 d.row d.args.length (d.args.map Jd) ∧ Apart vL d.row ∧ Apart v' d.row) :
  MkS wE base kb m pt z va vl vL0 vD0 W' vL v' R (D ++ [d]) where
 blk := hb
 ol := hc.owns h.ol (fun g hg e => by
                     rcases e with e | e
                     ·have := (h.ol.lt g hg).1; have := E.kbb; omega
                     ·exact h.ap.symm.no hg e)
 od := ho
 ap := (h.ap.symm.turn h.ol hn).symm
 ar := fun d' hd => by
  rcases List.mem_append.1 hd with hd | hd
  ·obtain ⟨a1, a2, a3⟩ := h.ar d' hd;refine ⟨hc.owns a1 (fun g hg e => ?_), a2, a3.turn a1 hn⟩
   rcases e with e | e
   ·have := (a1.lt g hg).1; have := E.kbb; omega
   ·exact a3.no hg e
  ·simp only [List.mem_singleton] at hd;subst hd;exact hr
 chg := h.chg.trans hc (fun n hn' e => by
                        rcases e with e | e
                        ·exact .inl e
                        ·rcases h.fd n e with e | e
                         ·exact .inr (.inr e)
                         ·omega)
 fl := h.fl
 fd := fun g e => by
  rcases hn g e with e | e
  ·exact h.fd g e
  ·exact .inr (Nat.le_trans h.chg.size e)
end
end Go.Proofs.YtiheiaaifdjpeaaGreat
namespace Go.Proofs.YtiheiaaifdjpeaaGreat
open Lib(hid)
open Go.RowKit Go.Shelf
variable {wE : World} {base kb lo Bi m : Nat} {p : GProg} {pt : GPt} {z : GIns} {va vl vL0 vD0 : Value} {W W' : World} {vL vD v' : Value} {R : List GRel} {D : List GDial}
theorem Ur (E : MkE wE base kb lo Bi m p pt z va vl vL0 vD0) (S : MkS wE base kb m pt z va vl vL0 vD0 W vL vD R D) (s : Str) :
  Calls Tryz.prog 94 #[.pointer (some ⟨kb, 0, none⟩), .string ⟨s.toArray⟩] W fun e w' => e = .returned (.int .i64 (vN p pt.1 s)) ∧ W.grownBy w' none := by
 have Hv := hid (fun (W' : World) (hg : W.grownBy W' none) => Zfl (S.map E hg) (pt.1 : Int) s);have HSc := hid (show ∀ W' : World, W.grownBy W' none → W'.cell? ⟨kb, 0, none⟩ = some (.pointer (some ⟨m, 0, none⟩)) ∧ W'.cell? ⟨kb, 1, none⟩ = some (.int .i64 pt.1) from fun W' hg => ⟨S.cell hg 0, S.cell hg 1⟩);clear S E;go_enter Tryz.func94, Tryz.ntmps94;go_upto_region 1 with (fail)
 have hs0 := HSc.out _ (Zf (World.grownBy.refl W none));go_region_held3 (fun W' => W'.cell? ⟨kb, 0, none⟩ = some (.pointer (some ⟨m, 0, none⟩)) ∧ W'.cell? ⟨kb, 1, none⟩ = some (.int .i64 pt.1)) (first | exact hs0 | exact hs1) ((go_simp; go_at_call 21; refine (Hv.out _ (Zf (World.grownBy.refl W none))).mono ?_; rintro e w1 ⟨rfl, hg1⟩; have hg2 := Zc (Zf (World.grownBy.refl W none)) hg1; have hs1 := HSc.out _ hg2))
 all_goals go_wp2_with fail
 all_goals go_ret
 all_goals exact ⟨rfl, hg2⟩
theorem Ztt {r : GRel} {l : List Int} {x : Int} (hx : x ∈ l) (h : x < 0) : V5 r l = [] := by
 unfold V5;rw [if_neg];intro e;have := List.all_eq_true.1 e x hx;simp at this;omega
theorem Zsy {r : GRel} {l : List Int} (h : ∀ x ∈ l, 0 ≤ x) : V5 r l = [r] := by
 unfold V5;rw [if_pos (List.all_eq_true.2 fun x hx => by simpa using h x hx)]
theorem Ql (E : MkE wE base kb lo Bi m p pt z va vl vL0 vD0) (S : MkS wE base kb m pt z va vl vL0 vD0 W vL vD R D) (r : GRel) {l : List Int} {A : Option Addr} {c : Nat} (hm : SlAt intR 1 W W.heap.size (.slice A l.length c) l) (hR : R.length ≤ 30000000) :
  Calls Tryz.prog 93 #[.pointer (some ⟨kb, 0, none⟩), .agg #[.int .u8 r.kind, .int .i64 r.a, .int .i64 r.b, .int .i64 r.k], .slice A l.length c] W fun e w' => e = .returned (.tuple #[]) ∧ ∃ vL', MkS wE base kb m pt z va vl vL0 vD0 w' vL' vD (R ++ V5 r l) D := by
 obtain ⟨A0, c0, e0, l1, l2, -, -⟩ := hm.open_;obtain ⟨rfl, rfl⟩ : A0 = A ∧ c0 = c := by simp only [Value.slice.injEq] at e0; exact ⟨e0.1.symm, e0.2.2.symm⟩
 clear e0;obtain ⟨W1, hW1⟩ : ∃ W1 : World, W1 = W.alloc (.cells #[.int .u8 r.kind, .int .i64 r.a, .int .i64 r.b, .int .i64 r.k] 84) := ⟨_, rfl⟩
 have hg1 : W.grownBy W1 none := by rw [hW1]; exact World.grownBy_alloc _ _ _
 have hb1 : W1.heap[W.heap.size]? = some (.cells #[.int .u8 r.kind, .int .i64 r.a, .int .i64 r.b, .int .i64 r.k] 84 (0, 0)) := by rw [hW1]; exact World.alloc_heap_new _ _
 have S1 := S.grow hg1;have hm1 := hm.below intR.keeps (Zk hg1) (Nat.le_refl _);have HM1 := hid hm1;have HS1 := hid S1;have HE := hid E;have Hb1 := hid hb1;have hkbl : kb < W1.heap.size := Ze S1.blk;clear hm hm1 S1 S E hb1 hg1;go_enter Tryz.func93, Tryz.ntmps93;go_upto_region 1 with (fail)
 rw [← hW1];clear hW1;go_wp2_with fail;go_loopw [10] (fun s10 wr => ∃ i : Nat, i ≤ l.length ∧ s10 = .int .i64 i ∧ (∀ x ∈ l.take i, 0 ≤ x) ∧ W1 = wr) (fun s10 _ => l.length - (intOf s10).toNat)
 case atStart => exact ⟨0, Nat.zero_le _, rfl, by simp, rfl⟩
 case round =>
  obtain ⟨i, hi, rfl, hpos, hwr⟩ := hrel;subst hwr
  by_cases hil : i < l.length
  ·obtain ⟨x, g, off, hx, rfl, hgl, hxc, hx1, hx2⟩ := HM1.out.at_ hil;rw [Nat.mul_one] at hxc
   by_cases hx0 : x < 0
   ·have hno := Ztt (r := r) (List.mem_of_getElem? hx) hx0;have Hno := hid hno;clear hno hx hpos;go_wp2
    (try simp only [Exit.inBlock, Exit.then])
    refine bodyPost_ret (results_none rfl _ _ _) rfl ?_;refine ⟨rfl, vL, ?_⟩;rw [Hno.out, List.append_nil];exact HS1.out
   ·have hpos' : ∀ y ∈ l.take (i + 1), 0 ≤ y := fun y hy => by
     rw [List.take_add_one, hx] at hy
     rcases List.mem_append.1 hy with hy | hy
     ·exact hpos y hy
     ·simp only [Option.toList_some, List.mem_singleton] at hy;omega
    have Hpos := hid hpos';clear hpos hpos' hx;go_wp2;go_roundw
    case rel => exact ⟨i + 1, by omega, by go_num, Hpos.out, by first | rfl | trivial⟩
    case measure => simp [intOf]; omega
  ·obtain rfl : i = l.length := by omega
   rw [List.take_length] at hpos;have Hyes := hid (Zsy (r := r) hpos);obtain ⟨AL, cL, rfl, -, -, -, -⟩ := Zr HS1.out.ol;have t12 : W1.cell? ⟨kb, 12, none⟩ = some (.slice AL R.length cL) := HS1.out.cell (World.grownBy.refl _ _) 12;obtain ⟨kx, -⟩ := Za Hb1.out;have k0 := kx 0;have k1 := kx 1;have k2 := kx 2;have k3 := kx 3;have hwl := HS1.out.lt HE.out;have hne1 : some kb ≠ (Value.slice AL R.length cL).ownBlock := fun e => by have := (HS1.out.ol.lt kb e.symm).1; have := HE.out.kbb; omega
   clear kx hpos hil hi;go_upto_region 6 with (fail)
   go_region_law (refine Vl rfl (.tmp 21) (.tmp 23) 74 rfl base 84 _ 4 32 Tryz.underlying74 infoRel rfl (by decide) (.slice AL R.length cL) _ _ rfl (HS1.out.ol.alloc _) W1.heap.size (Vr r) rfl (by simp [Vr, Value.oneCell']) rfl _ _ (World.alloc_heap_new W1.drew _) rfl (by unfold maxLen; omega) (by omega) (by simp; omega) ?_; intro G cap w3 ho hg hor;
                                                                                     have hb3 := (hg.block kb (by simp; omega) hne1).trans ((Below.heap_alloc W1.drew _ kb hkbl).trans HS1.out.blk);
                                                                                     have x1 : w3.cell? ⟨kb, 12, none⟩ = some (.slice AL R.length cL) := (Za hb3).1 12; have x2 : w3.frozen? ⟨kb, 12, none⟩ = false := (Za hb3).2 12;
                                                                                     have Hb3 := hid hb3; have Ho := hid ho; have Hg := hid hg; have Hor := hid hor; clear hb3 ho hg hor)
   all_goals (go_wp2_with fail; go_end0)
   all_goals
    have hgs : w3.grownBy (w3.setCell ⟨kb, 12, none⟩ (.slice (some ⟨G, 0, none⟩) (R.length + 1) cap)) (some kb) := Zl (World.grownBy.refl _ _) rfl _;have hc : Chg (fun n => n = kb ∨ (Value.slice AL R.length cL).ownBlock = some n) W1 (w3.setCell ⟨kb, 12, none⟩ (.slice (some ⟨G, 0, none⟩) (R.length + 1) cap)) :=
     ((Chg.grown (Q := fun n => n = kb ∨ (Value.slice AL R.length cL).ownBlock = some n) (Zi (World.grownBy.refl W1 none) 1) (fun r e => by cases e)).trans (Chg.alloc (fun _ => False) _ _) (fun _ _ e => e.elim)).trans ((Chg.grown (Q := fun n => n = kb ∨ (Value.slice AL R.length cL).ownBlock = some n) Hg.out (fun r e => .inr e)).trans (Chg.grown (Q := fun n => n = kb) hgs (fun r e => by injection e with e; exact e.symm)) (fun _ _ e => .inl e)) (fun _ _ e => e)
    have hG : base ≤ G := (Y2 Ho.out).1;have hkb := HE.out.kbb;have hvd : ∀ g, (Value.slice (some ⟨G, 0, none⟩) (R.length + 1) cap).ownBlock = some g → (Value.slice AL R.length cL).ownBlock = some g ∨ W1.heap.size ≤ g := fun g e => by
     injection e with e
     simp only at e;subst e
     rcases Hor.out with e | e
     ·exact .inl e
     ·right; rw [e]; simp
    refine ⟨rfl, _, by rw [Hyes.out]; exact (HS1.out.pushL HE.out (Zs Hb3.out 12 _) hc (by simpa [List.flatMap_append] using Ho.out.kept hgs (.inr (by intro e; injection e with e; simp only at e; omega))) hvd)⟩
theorem must1 {g : Nat} {a : Int} {W : World} (hb : W.heap[g]? = some (.cells #[.int .i64 a] 3 (0, 0))) (ha : -1 ≤ a ∧ a ≤ 1000000) : SlAt intR 1 W W.heap.size (.slice (some ⟨g, 0, none⟩) [a].length 1) [a] := by
 refine ⟨_, _, rfl, by simp, by unfold maxLen; omega, fun k x hx => ⟨g, 0, rfl, Ze hb, ?_⟩⟩
 match k with
 | 0 =>
  simp only [List.getElem?_cons_zero, Option.some.injEq] at hx;subst hx;exact ⟨(Za hb).1 0, by omega, by omega⟩
 | k + 1 => simp at hx
theorem must2 {g : Nat} {a b : Int} {W : World} (hb : W.heap[g]? = some (.cells #[.int .i64 a, .int .i64 b] 3 (0, 0))) (ha : -1 ≤ a ∧ a ≤ 1000000) (hb' : -1 ≤ b ∧ b ≤ 1000000) : SlAt intR 1 W W.heap.size (.slice (some ⟨g, 0, none⟩) [a, b].length 2) [a, b] := by
 refine ⟨_, _, rfl, by simp, by unfold maxLen; omega, fun k x hx => ⟨g, 0, rfl, Ze hb, ?_⟩⟩
 match k with
 | 0 =>
  simp only [List.getElem?_cons_zero, Option.some.injEq] at hx;subst hx;exact ⟨(Za hb).1 0, by omega, by omega⟩
 | 1 =>
  simp only [List.getElem?_cons_succ, List.getElem?_cons_zero, Option.some.injEq] at hx;subst hx;exact ⟨(Za hb).1 1, by omega, by omega⟩
 | k + 2 => simp at hx
def MkOut (wE : World) (base kb m : Nat) (pt : GPt) (z : GIns) (va vl vL0 vD0 vD : Value) (R : List GRel) (D : List GDial) (X : List GRel) (e : Ending) (w' : World) : Prop := e = .returned (.tuple #[]) ∧ ∃ vL', MkS wE base kb m pt z va vl vL0 vD0 w' vL' vD (R ++ X) D
theorem Q4 (E : MkE wE base kb lo Bi m p pt z va vl vL0 vD0) (S : MkS wE base kb m pt z va vl vL0 vD0 W vL vD R D) {a b : Int} (ha : -1 ≤ a ∧ a ≤ 1000000) (hb : -1 ≤ b ∧ b ≤ 1000000) (hR : R.length ≤ 30000000) :
  Calls Tryz.prog 95 #[.pointer (some ⟨kb, 0, none⟩), .int .i64 a, .int .i64 b] W (MkOut wE base kb m pt z va vl vL0 vD0 vD R D (Xd a b)) := by
 have hg1 : W.grownBy (W.alloc (.cells #[.int .i64 a, .int .i64 b] 3)) none := World.grownBy_alloc _ _ _;have hput := Ql E (S.grow hg1) ⟨2, a, b, 0⟩ (must2 (World.alloc_heap_new W _) ha hb) hR;clear S E;go_enter Tryz.func95, Tryz.ntmps95;go_wp2_with (go_at_call 93; refine hput.mono ?_; rintro e w2 ⟨rfl, h2⟩);go_end0;exact ⟨rfl, h2⟩
theorem Us {p : GProg} (h : NOk p) (f : Nat) (s : Str) : -1 ≤ vN p f s ∧ vN p f s ≤ 1000000 := by
 have h1 := (h.lens (Nat.le_refl p.length) (SLe.refl _)).1;unfold vN Zam
 split
 ·split
  ·exact ⟨by simp, by simp⟩
  ·split
   ·unfold ixK
    split
    ·have := List.idxOf_le_length (l := (Zg p p.length).vars) (a := ((f : Int).toNat, s));constructor <;> simp only <;> omega
    ·exact ⟨by simp, by simp⟩
   ·exact ⟨by simp, by simp⟩
 ·exact ⟨by simp, by simp⟩
end Go.Proofs.YtiheiaaifdjpeaaGreat
namespace Go.Proofs.YtiheiaaifdjpeaaGreat
open Lib(hid)
open Go.RowKit Go.Shelf
variable {wE : World} {base kb lo Bi m : Nat} {p : GProg} {pt : GPt} {z : GIns} {va vl vL0 vD0 : Value} {W W' : World} {vL vD v' : Value} {R : List GRel} {D : List GDial}
def J8 (p : GProg) (q : GPt) : Nat × Nat × Bool := match Ys (Zg p p.length).at_ q with
 | some j => (((Zg p p.length).sites[j]?).map fun x => (x.2.1, x.2.2, true)).getD (0, 0, false)
 | none => (0, 0, false)
theorem Zqd {w : World} (h : MapL lo w m p) (q : GPt) : Calls Tryz.prog 24 #[.pointer (some ⟨m, 0, none⟩), .agg #[.int .i64 q.1, .int .i64 q.2.1, .int .i64 q.2.2]] w fun e w' => e = .returned (.tuple #[.int .i64 (J8 p q).1, .int .i64 (J8 p q).2.1, .bool (J8 p q).2.2]) ∧ w.grownBy w' none := by
 cases hq : Ys (Zg p p.length).at_ q with
 | none =>
  have := Zsh h hq;simpa [J8, hq] using this
 | some j =>
  obtain ⟨x, hx, -⟩ := (Qo p (Nat.le_refl _)).got hq;have := Zqe h hq hx;simpa [J8, hq, hx] using this
def fobj (p : GProg) (s : Str) : Nat := (Zg p p.length).of.length + ixK (Zv p p.length) s
theorem ixF_lt {w : World} (h : MapL lo w m p) (s : Str) : ixK (Zv p p.length) s < p.length := by
 have h1 := h.ok.funcs;have h2 := Ux p (Nat.le_refl p.length);unfold ixK
 split
 ·rename_i hc
  have := List.idxOf_lt_length_iff.2 (List.contains_iff_mem.1 hc);omega
 ·omega
theorem Zhu (E : MkE wE base kb lo Bi m p pt z va vl vL0 vD0) (S : MkS wE base kb m pt z va vl vL0 vD0 W vL vD R D) (hR : R.length ≤ 30000000) :
  Calls Tryz.prog 71 #[.pointer (some ⟨kb, 0, none⟩)] W (MkOut wE base kb m pt z va vl vL0 vD0 vD R D (V5 ⟨1, vN p pt.1 z.dst, ((J8 p pt).1 : Nat), 0⟩ [])) := by
 have hok := (S.map E (World.grownBy.refl W none)).ok;have Hv := hid (fun (W' : World) (hg : W.grownBy W' none) (s : Str) => Ur E (S.grow hg) s);have HSc := hid (show ∀ W' : World, W.grownBy W' none → W'.cell? ⟨kb, 0, none⟩ = some (.pointer (some ⟨m, 0, none⟩)) ∧ W'.cell? ⟨kb, 1, none⟩ = some (.int .i64 pt.1) ∧ W'.cell? ⟨kb, 2, none⟩ = some (.int .i64 pt.2.1) ∧ W'.cell? ⟨kb, 3, none⟩ = some (.int .i64 pt.2.2) ∧ W'.cell? ⟨kb, 5, none⟩ = some (.string ⟨z.dst.toArray⟩) from fun W' hg => ⟨S.cell hg 0, S.cell hg 1, S.cell hg 2, S.cell hg 3, S.cell hg 5⟩);have Hs := hid (fun (W' : World) (hg : W.grownBy W' none) => Zqd (S.map E hg) pt);have Hp := hid (fun (W' : World) (hg : W.grownBy W' none) => Ql E (S.grow hg) ⟨1, vN p pt.1 z.dst, ((J8 p pt).1 : Nat), 0⟩ (l := []) (A := none) (c := 0) (SlAt.nil_ intR 1 W' W'.heap.size) hR);have hg := (World.grownBy.refl W none)
 clear S E;go_enter Tryz.func71, Tryz.ntmps71;go_upto_region 0 with (fail)
 go_region_held3 (fun W' => W'.cell? ⟨kb, 0, none⟩ = some (.pointer (some ⟨m, 0, none⟩)) ∧ W'.cell? ⟨kb, 1, none⟩ = some (.int .i64 pt.1) ∧ W'.cell? ⟨kb, 2, none⟩ = some (.int .i64 pt.2.1) ∧ W'.cell? ⟨kb, 3, none⟩ = some (.int .i64 pt.2.2) ∧ W'.cell? ⟨kb, 5, none⟩ = some (.string ⟨z.dst.toArray⟩)) (first | exact HSc.out _ hg | exact HSc.out _ (Zf hg) | exact HSc.out _ (Zd hg _) | exact HSc.out _ (Zd (Zf hg) _)) ((first | (go_simp; go_at_call 24; refine (Hs.out _ (Zf hg)).mono ?_; rintro e w1 ⟨rfl, hg1⟩; have hg := Zc (Zf hg) hg1; clear hg1)))
 all_goals (obtain ⟨c0, c1, c2, c3, c5⟩ := HSc.out _ hg)
 all_goals go_wp2_with (first | (go_at_call 94; refine (Hv.out _ (by first | exact hg | exact Zf hg | exact Zd hg _ | exact Zd (Zf hg) _) _).mono ?_; rintro e w1 ⟨rfl, hg1⟩; have hg := Zc (by first | exact hg | exact Zf hg | exact Zd hg _ | exact Zd (Zf hg) _) hg1; have hbx := fun (g : Nat) (o : Obj) (h : _ = some o) => (hg1.block g (Ze h) (by simp)).trans h; clear hg1) | (go_at_call 93; refine (Hp.out _ (by first | exact hg | exact Zf hg) ).mono ?_; rintro e w2 ⟨rfl, vL2, h2⟩))
 all_goals go_end0
 all_goals exact ⟨rfl, vL2, h2⟩
theorem Zqm (E : MkE wE base kb lo Bi m p pt z va vl vL0 vD0) (S : MkS wE base kb m pt z va vl vL0 vD0 W vL vD R D) (hR : R.length ≤ 30000000) :
  Calls Tryz.prog 72 #[.pointer (some ⟨kb, 0, none⟩)] W (MkOut wE base kb m pt z va vl vL0 vD0 vD R D (V5 ⟨1, vN p pt.1 z.dst, (fobj p z.fn : Nat), 0⟩ [])) := by
 have hok := (S.map E (World.grownBy.refl W none)).ok;have Hv := hid (fun (W' : World) (hg : W.grownBy W' none) (s : Str) => Ur E (S.grow hg) s);have HSc := hid (show ∀ W' : World, W.grownBy W' none → W'.cell? ⟨kb, 0, none⟩ = some (.pointer (some ⟨m, 0, none⟩)) ∧ W'.cell? ⟨kb, 5, none⟩ = some (.string ⟨z.dst.toArray⟩) ∧ W'.cell? ⟨kb, 9, none⟩ = some (.string ⟨z.fn.toArray⟩) from fun W' hg => ⟨S.cell hg 0, S.cell hg 5, S.cell hg 9⟩);have Hf := hid (fun (W' : World) (hg : W.grownBy W' none) => Zhq (S.map E hg) z.fn);have Ho := hid (fun (W' : World) (hg : W.grownBy W' none) => Ziz (S.map E hg) (ixK (Zv p p.length) z.fn) (ixF_lt (S.map E hg) z.fn));have Hp := hid (fun (W' : World) (hg : W.grownBy W' none) => Ql E (S.grow hg) ⟨1, vN p pt.1 z.dst, (fobj p z.fn : Nat), 0⟩ (l := []) (A := none) (c := 0) (SlAt.nil_ intR 1 W' W'.heap.size) hR);have Hfo := hid (show ((Zg p p.length).of.length : Int) + (ixK (Zv p p.length) z.fn : Int) = ((fobj p z.fn : Nat) : Int) by unfold fobj; omega);have hg := (World.grownBy.refl W none)
 clear S E;go_enter Tryz.func72, Tryz.ntmps72;go_upto_region 0 with (fail)
 go_region_held3 (fun W' => W'.cell? ⟨kb, 0, none⟩ = some (.pointer (some ⟨m, 0, none⟩)) ∧ W'.cell? ⟨kb, 5, none⟩ = some (.string ⟨z.dst.toArray⟩) ∧ W'.cell? ⟨kb, 9, none⟩ = some (.string ⟨z.fn.toArray⟩)) (first | exact HSc.out _ hg | exact HSc.out _ (Zf hg) | exact HSc.out _ (Zd hg _) | exact HSc.out _ (Zd (Zf hg) _)) ((first | (go_simp; go_at_call 26; refine (Hf.out _ (Zf hg)).mono ?_; rintro e w1 ⟨rfl, hg1⟩; have hg := Zc (Zf hg) hg1; clear hg1)))
 all_goals go_upto_region 1 with (fail)
 all_goals go_region_held3 (fun W' => W'.cell? ⟨kb, 0, none⟩ = some (.pointer (some ⟨m, 0, none⟩)) ∧ W'.cell? ⟨kb, 5, none⟩ = some (.string ⟨z.dst.toArray⟩) ∧ W'.cell? ⟨kb, 9, none⟩ = some (.string ⟨z.fn.toArray⟩)) (first | exact HSc.out _ hg | exact HSc.out _ (Zf hg) | exact HSc.out _ (Zd hg _) | exact HSc.out _ (Zd (Zf hg) _) | exact ⟨h2.cell (World.grownBy.refl _ _) 0, h2.cell (World.grownBy.refl _ _) 5, h2.cell (World.grownBy.refl _ _) 9⟩) ((first | (go_simp; go_at_call 94; refine (Hv.out _ (by first | exact hg | exact Zf hg | exact Zd hg _ | exact Zd (Zf hg) _) _).mono ?_; rintro e w1 ⟨rfl, hg1⟩; have hg := Zc (by first | exact hg | exact Zf hg | exact Zd hg _ | exact Zd (Zf hg) _) hg1; have hbx := fun (g : Nat) (o : Obj) (h : _ = some o) => (hg1.block g (Ze h) (by simp)).trans h; clear hg1) | (go_simp; go_at_call 35; refine (Ho.out _ (by first | exact hg | exact Zf hg)).mono ?_; rintro e w1 ⟨rfl, rfl⟩; rw [Hfo.out]) | (go_simp; go_at_call 93; refine (Hp.out _ (by first | exact hg | exact Zf hg) ).mono ?_; rintro e w2 ⟨rfl, vL2, h2⟩)))
 all_goals (go_wp2_with fail; go_end0)
 all_goals exact ⟨rfl, vL2, h2⟩
theorem Zqo (E : MkE wE base kb lo Bi m p pt z va vl vL0 vD0) (S : MkS wE base kb m pt z va vl vL0 vD0 W vL vD R D) (hR : R.length ≤ 30000000) :
  Calls Tryz.prog 73 #[.pointer (some ⟨kb, 0, none⟩)] W (MkOut wE base kb m pt z va vl vL0 vD0 vD R D (V5 ⟨2, vN p pt.1 z.dst, vN p pt.1 z.a, 0⟩ [vN p pt.1 z.dst, vN p pt.1 z.a])) := by
 have hok := (S.map E (World.grownBy.refl W none)).ok;have Hv := hid (fun (W' : World) (hg : W.grownBy W' none) (s : Str) => Ur E (S.grow hg) s);have HSc := hid (show ∀ W' : World, W.grownBy W' none → W'.cell? ⟨kb, 5, none⟩ = some (.string ⟨z.dst.toArray⟩) ∧ W'.cell? ⟨kb, 6, none⟩ = some (.string ⟨z.a.toArray⟩) from fun W' hg => ⟨S.cell hg 5, S.cell hg 6⟩);have Hp := hid (fun (W' : World) (hg : W.grownBy W' none) => Q4 E (S.grow hg) (Us hok pt.1 z.dst) (Us hok pt.1 z.a) hR);have hg := (World.grownBy.refl W none)
 clear S E;go_enter Tryz.func73, Tryz.ntmps73;go_upto_region 0 with (fail)
 go_region_held3 (fun W' => W'.cell? ⟨kb, 5, none⟩ = some (.string ⟨z.dst.toArray⟩) ∧ W'.cell? ⟨kb, 6, none⟩ = some (.string ⟨z.a.toArray⟩)) (first | exact HSc.out _ hg | exact HSc.out _ (Zf hg) | exact HSc.out _ (Zd hg _) | exact HSc.out _ (Zd (Zf hg) _) | exact ⟨h2.cell (World.grownBy.refl _ _) 5, h2.cell (World.grownBy.refl _ _) 6⟩) ((first | (go_simp; go_at_call 94; refine (Hv.out _ (by first | exact hg | exact Zf hg | exact Zd hg _ | exact Zd (Zf hg) _) _).mono ?_; rintro e w1 ⟨rfl, hg1⟩; have hg := Zc (by first | exact hg | exact Zf hg | exact Zd hg _ | exact Zd (Zf hg) _) hg1; have hbx := fun (g : Nat) (o : Obj) (h : _ = some o) => (hg1.block g (Ze h) (by simp)).trans h; clear hg1) | (go_simp; go_at_call 95; refine (Hp.out _ (by first | exact hg | exact Zf hg)).mono ?_; rintro e w2 ⟨rfl, vL2, h2⟩)))
 all_goals (go_wp2_with fail; go_end0)
 all_goals exact ⟨rfl, vL2, h2⟩
theorem Znf (E : MkE wE base kb lo Bi m p pt z va vl vL0 vD0) (S : MkS wE base kb m pt z va vl vL0 vD0 W vL vD R D) (hR : R.length ≤ 30000000) :
  Calls Tryz.prog 75 #[.pointer (some ⟨kb, 0, none⟩)] W (MkOut wE base kb m pt z va vl vL0 vD0 vD R D (V5 ⟨5, vN p pt.1 z.dst, vN p pt.1 z.a, z.n⟩ [vN p pt.1 z.a])) := by
 have hok := (S.map E (World.grownBy.refl W none)).ok;have Hv := hid (fun (W' : World) (hg : W.grownBy W' none) (s : Str) => Ur E (S.grow hg) s);have HSc := hid (show ∀ W' : World, W.grownBy W' none → W'.cell? ⟨kb, 5, none⟩ = some (.string ⟨z.dst.toArray⟩) ∧ W'.cell? ⟨kb, 6, none⟩ = some (.string ⟨z.a.toArray⟩) ∧ W'.cell? ⟨kb, 8, none⟩ = some (.int .i64 z.n) from fun W' hg => ⟨S.cell hg 5, S.cell hg 6, S.cell hg 8⟩);have Hp := hid (fun (W' : World) (hg : W.grownBy W' none) (g : Nat) (hb : W'.heap[g]? = some (.cells #[.int .i64 (vN p pt.1 z.a)] 3 (0, 0))) => Ql E (S.grow hg) ⟨5, vN p pt.1 z.dst, vN p pt.1 z.a, z.n⟩ (must1 hb (Us hok pt.1 z.a)) hR);have hg := (World.grownBy.refl W none)
 clear S E;go_enter Tryz.func75, Tryz.ntmps75;have c6 := (HSc.out _ hg).2.1;go_upto_region 1 with (go_at_call 94; refine (Hv.out _ (by first | exact hg | exact Zf hg | exact Zd hg _ | exact Zd (Zf hg) _) _).mono ?_; rintro e w1 ⟨rfl, hg1⟩; have hg := Zc (by first | exact hg | exact Zf hg | exact Zd hg _ | exact Zd (Zf hg) _) hg1; have hbx := fun (g : Nat) (o : Obj) (h : _ = some o) => (hg1.block g (Ze h) (by simp)).trans h; clear hg1)
 clear c6;go_region_held3 (fun W' => W'.cell? ⟨kb, 5, none⟩ = some (.string ⟨z.dst.toArray⟩) ∧ W'.cell? ⟨kb, 6, none⟩ = some (.string ⟨z.a.toArray⟩) ∧ W'.cell? ⟨kb, 8, none⟩ = some (.int .i64 z.n)) (first | exact HSc.out _ hg | exact HSc.out _ (Zf hg) | exact HSc.out _ (Zd hg _) | exact HSc.out _ (Zd (Zf hg) _) | exact ⟨h2.cell (World.grownBy.refl _ _) 5, h2.cell (World.grownBy.refl _ _) 6, h2.cell (World.grownBy.refl _ _) 8⟩) ((first | (go_simp; go_at_call 94; refine (Hv.out _ (by first | exact hg | exact Zf hg | exact Zd hg _ | exact Zd (Zf hg) _) _).mono ?_; rintro e w1 ⟨rfl, hg1⟩; have hg := Zc (by first | exact hg | exact Zf hg | exact Zd hg _ | exact Zd (Zf hg) _) hg1; have hbx := fun (g : Nat) (o : Obj) (h : _ = some o) => (hg1.block g (Ze h) (by simp)).trans h; clear hg1) | (go_simp; go_at_call 93; refine (Hp.out _ (by first | exact Zd hg _ | exact hg | exact Zf hg) _ (by first | exact World.alloc_heap_new _ _ | exact hbx _ _ (World.alloc_heap_new _ _))).mono ?_; rintro e w2 ⟨rfl, vL2, h2⟩)))
 all_goals (go_wp2_with fail; go_end0)
 all_goals exact ⟨rfl, vL2, h2⟩
theorem Zqr (E : MkE wE base kb lo Bi m p pt z va vl vL0 vD0) (S : MkS wE base kb m pt z va vl vL0 vD0 W vL vD R D) (hR : R.length ≤ 30000000) :
  Calls Tryz.prog 76 #[.pointer (some ⟨kb, 0, none⟩)] W (MkOut wE base kb m pt z va vl vL0 vD0 vD R D (V5 ⟨3, vN p pt.1 z.dst, vN p pt.1 z.a, 0⟩ [vN p pt.1 z.a])) := by
 have hok := (S.map E (World.grownBy.refl W none)).ok;have Hv := hid (fun (W' : World) (hg : W.grownBy W' none) (s : Str) => Ur E (S.grow hg) s);have HSc := hid (show ∀ W' : World, W.grownBy W' none → W'.cell? ⟨kb, 5, none⟩ = some (.string ⟨z.dst.toArray⟩) ∧ W'.cell? ⟨kb, 6, none⟩ = some (.string ⟨z.a.toArray⟩) from fun W' hg => ⟨S.cell hg 5, S.cell hg 6⟩);have Hp := hid (fun (W' : World) (hg : W.grownBy W' none) (g : Nat) (hb : W'.heap[g]? = some (.cells #[.int .i64 (vN p pt.1 z.a)] 3 (0, 0))) => Ql E (S.grow hg) ⟨3, vN p pt.1 z.dst, vN p pt.1 z.a, 0⟩ (must1 hb (Us hok pt.1 z.a)) hR);have hg := (World.grownBy.refl W none)
 clear S E;go_enter Tryz.func76, Tryz.ntmps76;have c6 := (HSc.out _ hg).2;go_upto_region 1 with (go_at_call 94; refine (Hv.out _ (by first | exact hg | exact Zf hg | exact Zd hg _ | exact Zd (Zf hg) _) _).mono ?_; rintro e w1 ⟨rfl, hg1⟩; have hg := Zc (by first | exact hg | exact Zf hg | exact Zd hg _ | exact Zd (Zf hg) _) hg1; have hbx := fun (g : Nat) (o : Obj) (h : _ = some o) => (hg1.block g (Ze h) (by simp)).trans h; clear hg1)
 clear c6;have c5 := (HSc.out _ hg).1;go_wp2_with (first | (go_at_call 94; refine (Hv.out _ (by first | exact hg | exact Zf hg | exact Zd hg _ | exact Zd (Zf hg) _) _).mono ?_; rintro e w1 ⟨rfl, hg1⟩; have hg := Zc (by first | exact hg | exact Zf hg | exact Zd hg _ | exact Zd (Zf hg) _) hg1; have hbx := fun (g : Nat) (o : Obj) (h : _ = some o) => (hg1.block g (Ze h) (by simp)).trans h; clear hg1) | (go_at_call 93; refine (Hp.out _ (by first | exact Zd hg _ | exact hg | exact Zf hg) _ (by first | exact World.alloc_heap_new _ _ | exact hbx _ _ (World.alloc_heap_new _ _))).mono ?_; rintro e w2 ⟨rfl, vL2, h2⟩));go_end0;exact ⟨rfl, vL2, h2⟩
theorem Zni (E : MkE wE base kb lo Bi m p pt z va vl vL0 vD0) (S : MkS wE base kb m pt z va vl vL0 vD0 W vL vD R D) (hR : R.length ≤ 30000000) :
  Calls Tryz.prog 77 #[.pointer (some ⟨kb, 0, none⟩)] W (MkOut wE base kb m pt z va vl vL0 vD0 vD R D (V5 ⟨4, vN p pt.1 z.b, vN p pt.1 z.a, 0⟩ [vN p pt.1 z.a, vN p pt.1 z.b])) := by
 have hok := (S.map E (World.grownBy.refl W none)).ok;have Hv := hid (fun (W' : World) (hg : W.grownBy W' none) (s : Str) => Ur E (S.grow hg) s);have HSc := hid (show ∀ W' : World, W.grownBy W' none → W'.cell? ⟨kb, 6, none⟩ = some (.string ⟨z.a.toArray⟩) ∧ W'.cell? ⟨kb, 7, none⟩ = some (.string ⟨z.b.toArray⟩) from fun W' hg => ⟨S.cell hg 6, S.cell hg 7⟩);have Hp := hid (fun (W' : World) (hg : W.grownBy W' none) (g : Nat) (hb : W'.heap[g]? = some (.cells #[.int .i64 (vN p pt.1 z.a), .int .i64 (vN p pt.1 z.b)] 3 (0, 0))) => Ql E (S.grow hg) ⟨4, vN p pt.1 z.b, vN p pt.1 z.a, 0⟩ (must2 hb (Us hok pt.1 z.a) (Us hok pt.1 z.b)) hR);have hg := (World.grownBy.refl W none)
 clear S E;go_enter Tryz.func77, Tryz.ntmps77;go_upto_region 0 with (fail)
 go_region_held3 (fun W' => W'.cell? ⟨kb, 6, none⟩ = some (.string ⟨z.a.toArray⟩) ∧ W'.cell? ⟨kb, 7, none⟩ = some (.string ⟨z.b.toArray⟩)) (first | exact HSc.out _ hg | exact HSc.out _ (Zf hg) | exact HSc.out _ (Zd hg _) | exact HSc.out _ (Zd (Zf hg) _)) ((first | (go_simp; go_at_call 94; refine (Hv.out _ (by first | exact hg | exact Zf hg | exact Zd hg _ | exact Zd (Zf hg) _) _).mono ?_; rintro e w1 ⟨rfl, hg1⟩; have hg := Zc (by first | exact hg | exact Zf hg | exact Zd hg _ | exact Zd (Zf hg) _) hg1; have hbx := fun (g : Nat) (o : Obj) (h : _ = some o) => (hg1.block g (Ze h) (by simp)).trans h; clear hg1)))
 all_goals go_wp2_with (go_at_call 93; refine (Hp.out _ (by first | exact Zd hg _ | exact hg | exact Zf hg) _ (by first | exact World.alloc_heap_new _ _ | exact hbx _ _ (World.alloc_heap_new _ _))).mono ?_; rintro e w2 ⟨rfl, vL2, h2⟩)
 all_goals go_end0
 all_goals exact ⟨rfl, vL2, h2⟩
end Go.Proofs.YtiheiaaifdjpeaaGreat

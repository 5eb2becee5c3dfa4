/- How what package sound knows of a function lies in memory. No condition. -/
import Derived.Test.YtiheiaaifdjpeaaGreatDCfgOf
import Derived.Test.YtiheiaaifdjpeaaGreatDDom
import Derived.Test.YtiheiaaifdjpeaaGreatDCfgU
set_option linter.unusedVariables false
set_option linter.unusedSimpArgs false
set_option maxHeartbeats 4000000
set_option maxRecDepth 100000
namespace Go.Proofs.YtiheiaaifdjpeaaGreat
open Lib(hid)
open Go.RowKit Go.Shelf
structure BodyAt (w : World) (B b : Nat) (f : GFun) (A1 : Option Addr) (d1 : Nat) (A2 : Option Addr) (d2 S S2 O M : Nat) (order : List Nat) (o : Out) : Prop where
 lt : b < B
 blk : w.heap[b]? = some (.cells #[.string ⟨f.name.toArray⟩, .slice A1 f.params.length d1, .slice A2 f.blocks.length d2, .slice (some ⟨S, 0, none⟩) f.blocks.length f.blocks.length, .slice (some ⟨S2, 0, none⟩) f.blocks.length f.blocks.length, .slice (some ⟨O, 0, none⟩) f.blocks.length f.blocks.length, .map (some M)] 162 (0, 0))
 fn : FunAt w B f (.slice A1 f.params.length d1) (.slice A2 f.blocks.length d2)
 succ : GraphAt w B (.slice (some ⟨S, 0, none⟩) f.blocks.length f.blocks.length) (Z5 f.blocks)
 pred : GraphAt w B (.slice (some ⟨S2, 0, none⟩) f.blocks.length f.blocks.length) (X1 (Z5 f.blocks))
 tree : TreeAt w B O (Z5 f.blocks) order o
 defs : w.heap[M]? = some (Yd encS Uu (Zem f))
 mlt : M < B
theorem BodyAt.below {w w' : World} {B b : Nat} {f : GFun} {A1 : Option Addr} {d1 : Nat} {A2 : Option Addr} {d2 S S2 O M : Nat} {order : List Nat} {o : Out} (h : BodyAt w B b f A1 d1 A2 d2 S S2 O M order o) {B' : Nat} (hb : Below B' w w') (hB : B ≤ B') :
  BodyAt w' B b f A1 d1 A2 d2 S S2 O M order o where
 lt := h.lt
 blk := (hb.block b (Nat.lt_of_lt_of_le h.lt hB)).trans h.blk
 fn := h.fn.below hb hB
 succ := h.succ.below rowR.keeps hb hB
 pred := h.pred.below rowR.keeps hb hB
 tree := h.tree.below hb hB
 defs := (hb.block M (Nat.lt_of_lt_of_le h.mlt hB)).trans h.defs
 mlt := h.mlt
theorem BodyAt.more {w : World} {B b : Nat} {f : GFun} {A1 : Option Addr} {d1 : Nat} {A2 : Option Addr} {d2 S S2 O M : Nat} {order : List Nat} {o : Out} (h : BodyAt w B b f A1 d1 A2 d2 S S2 O M order o) {B' : Nat} (hB : B ≤ B') :
  BodyAt w B' b f A1 d1 A2 d2 S S2 O M order o where
 lt := Nat.lt_of_lt_of_le h.lt hB
 blk := h.blk
 fn := h.fn.more hB
 succ := h.succ.more rowR.keeps hB
 pred := h.pred.more rowR.keeps hB
 tree := h.tree.more hB
 defs := h.defs
 mlt := Nat.lt_of_lt_of_le h.mlt hB
def Body (w : World) (B b : Nat) (f : GFun) : Prop := ∃ A1 d1 A2 d2 S S2 O M order o, BodyAt w B b f A1 d1 A2 d2 S S2 O M order o
theorem Body.below {w w' : World} {B b : Nat} {f : GFun} (h : Body w B b f) {B' : Nat} (hb : Below B' w w') (hB : B ≤ B') : Body w' B b f := by
 obtain ⟨A1, d1, A2, d2, S, S2, O, M, order, o, h⟩ := h;exact ⟨A1, d1, A2, d2, S, S2, O, M, order, o, h.below hb hB⟩
theorem Body.more {w : World} {B b : Nat} {f : GFun} (h : Body w B b f) {B' : Nat} (hB : B ≤ B') : Body w B' b f := by
 obtain ⟨A1, d1, A2, d2, S, S2, O, M, order, o, h⟩ := h;exact ⟨A1, d1, A2, d2, S, S2, O, M, order, o, h.more hB⟩
end Go.Proofs.YtiheiaaifdjpeaaGreat
namespace Go.Proofs.YtiheiaaifdjpeaaGreat
open Lib(hid)
open Go.RowKit Go.Shelf
def Yt (f : GFun) (s : Str) : Int × Nat := (Ys (Zem f) s).getD (0, 0)
noncomputable def Xr (f : GFun) (s : Str) (k : Nat) : Bool := s == nought || decide ((Yt f s).1 < 0) || Zeq (Z5 f.blocks) (Yt f s).1.toNat k
noncomputable def atB (f : GFun) (s : Str) (k i : Nat) : Bool := if (Yt f s).1 = k then decide ((Yt f s).2 < i) else Xr f s k
theorem Zhd (f : GFun) (b B : Nat) (w : World) (s : Str) (k : Nat) (hk : k < f.blocks.length) (hn : f.blocks.length ≤ 65536) (h : Body w B b f) (hB : B ≤ w.heap.size) (hd1 : -1 ≤ (Yt f s).1) (hd : (Yt f s).1 < f.blocks.length) (hd2 : (Yt f s).2 ≤ 1099511627776) (hs : s.length ≤ 9223372036854775807) :
  Calls Tryz.prog 152 #[.pointer (some ⟨b, 0, none⟩), .string ⟨s.toArray⟩, .int .i64 k] w fun e w' => e = .returned (.bool (Xr f s k)) ∧ w.grownBy w' none := by
 obtain ⟨A1, d1, A2, d2, S, S2, O, M, order, o, h⟩ := h;obtain ⟨j1, _⟩ := Za h.blk;have e6 : w.cell? ⟨b, 6, none⟩ = some (.map (some M)) := j1 6;have e5 : w.cell? ⟨b, 5, none⟩ = some (.slice (some ⟨O, 0, none⟩) f.blocks.length f.blocks.length) := j1 5;have hrun := Qm (P := Tryz.prog) (Zbd Tryz.underlying9) Tryz.underlying160 h.defs s (z := .agg #[.int .i64 0, .int .i64 0]) (by kernel_rfl);replace hrun := hrun.trans (congrArg (fun v => Result.ok v w) (show _ = Uu (Yt f s) by unfold Yt Uu; cases Ys (Zem f) s <;> rfl));simp only [encS, Uu] at hrun;have hlt := h.lt;have hltO := h.tree.lt;have HT := hid h.tree;have h1 := World.alloc_heap_new w (.cells #[.int .i64 (Yt f s).1, .int .i64 (Yt f s).2] 164);clear j1 h;have hsn : Hid (Xr f s k = (s == nought || decide ((Yt f s).1 < 0) || Zeq (Z5 f.blocks) (Yt f s).1.toNat k)) := rfl;have hdom : ∀ W : World, w.grownBy W none → ∀ a : Nat, a < f.blocks.length → Calls Tryz.prog 195 #[.slice (some ⟨O, 0, none⟩) f.blocks.length f.blocks.length, .int .i64 a, .int .i64 k] W fun e w' => e = .returned (.bool (Zeq (Z5 f.blocks) a k)) ∧ W = w' :=
  fun W hg a ha => dom_any a k _ O B _ order o W (Zq _).symm hn ha hk (HT.out.below (Zk hg) hB)
 obtain ⟨D1, hD1⟩ : ∃ D : Int, D = (Yt f s).1 := ⟨_, rfl⟩
 obtain ⟨D2, hD2⟩ : ∃ D : Nat, D = (Yt f s).2 := ⟨_, rfl⟩
 rw [← hD1, ← hD2] at hrun h1;rw [← hD1] at hd1 hd hsn;rw [← hD2] at hd2;obtain ⟨p1, _⟩ := Za h1;have c0 : (w.alloc (.cells #[.int .i64 D1, .int .i64 D2] 164)).cell? ⟨w.heap.size, 0, none⟩ = some (.int .i64 D1) := p1 0;clear hD1 hD2 HT h1 p1;have hg := World.grownBy_alloc w (.cells #[.int .i64 D1, .int .i64 D2] 164) none;have hbw : b ≠ w.heap.size := by omega
 have hbl : b < w.heap.size := by omega
 have HG := hid hg;clear hg
 cases q1 : s == [110, 117, 108, 108] with
 | true =>
  have HR := hid (show Xr f s k = true by rw [hsn.out, nought, q1]; rfl);clear hsn hdom hd hd1 hd2 e5;go_enter Tryz.func152, Tryz.ntmps152;go_upto_region 2 with (fail)
  clear hrun e6;go_quiet (fail);go_wp2;go_ret;exact ⟨by rw [HR.out]; rfl, Zi HG.out _⟩
 | false =>
  by_cases q2 : D1 < 0
  ·have HR := hid (show Xr f s k = true by rw [hsn.out]; simp [q2]);have q2' : decide (D1 < 0) = true := by simp [q2]
   clear hsn hdom hd hd1 hd2 e5 q2;go_enter Tryz.func152, Tryz.ntmps152;go_upto_region 2 with (fail)
   clear hrun e6;go_quiet (fail);go_wp2;go_ret;exact ⟨by rw [HR.out]; rfl, Zi HG.out _⟩
  ·obtain ⟨a, rfl⟩ : ∃ a : Nat, D1 = a := ⟨D1.toNat, by omega⟩
   have HR := hid (show Xr f s k = Zeq (Z5 f.blocks) a k by rw [hsn.out, nought, q1]; simp [q2]);have q2' : decide ((a : Int) < 0) = false := by simp
   have e5' : (w.alloc (.cells #[.int .i64 (a : Int), .int .i64 D2] 164)).cell? ⟨b, 5, none⟩ = some (.slice (some ⟨O, 0, none⟩) f.blocks.length f.blocks.length) := (World.cell?_alloc_lt w _ _ hbl).trans e5;have hc := fun n : Nat => hdom _ (Zi HG.out n) a (by omega)
   clear hsn hdom hd1 q2 e5;go_enter Tryz.func152, Tryz.ntmps152;go_upto_region 2 with (fail)
   clear hrun e6;go_quiet ((go_at_call 195; exact (hc _).mono fun e w' h => ⟨h.1, _, h.2.symm⟩));go_wp2;go_ret;exact ⟨by rw [HR.out]; rfl, Zi HG.out _⟩
theorem at_any (f : GFun) (b B : Nat) (w : World) (s : Str) (k i : Nat) (hk : k < f.blocks.length) (hn : f.blocks.length ≤ 65536) (hi : i ≤ 1099511627776) (h : Body w B b f) (hB : B ≤ w.heap.size) (hd1 : -1 ≤ (Yt f s).1) (hd : (Yt f s).1 < f.blocks.length) (hd2 : (Yt f s).2 ≤ 1099511627776) (hs : s.length ≤ 9223372036854775807) :
  Calls Tryz.prog 151 #[.pointer (some ⟨b, 0, none⟩), .string ⟨s.toArray⟩, .int .i64 k, .int .i64 i] w fun e w' => e = .returned (.bool (atB f s k i)) ∧ w.grownBy w' none := by
 have hb := h;obtain ⟨A1, d1, A2, d2, S, S2, O, M, order, o, h⟩ := h;obtain ⟨j1, _⟩ := Za h.blk;have e6 : w.cell? ⟨b, 6, none⟩ = some (.map (some M)) := j1 6;have hrun := Qm (P := Tryz.prog) (Zbd Tryz.underlying9) Tryz.underlying160 h.defs s (z := .agg #[.int .i64 0, .int .i64 0]) (by kernel_rfl);replace hrun := hrun.trans (congrArg (fun v => Result.ok v w) (show _ = Uu (Yt f s) by unfold Yt Uu; cases Ys (Zem f) s <;> rfl));simp only [encS, Uu] at hrun;have hlt := h.lt;have hend : ∀ W : World, w.grownBy W none → Calls Tryz.prog 152 #[.pointer (some ⟨b, 0, none⟩), .string ⟨s.toArray⟩, .int .i64 k] W fun e w' => e = .returned (.bool (Xr f s k)) ∧ W.grownBy w' none :=
  fun W hg => Zhd f b B W s k hk hn (hb.below (Zk hg) hB) (Nat.le_trans hB hg.size) hd1 hd hd2 hs
 have hat : Hid (atB f s k i = if (Yt f s).1 = k then decide ((Yt f s).2 < i) else Xr f s k) := rfl;clear j1 h hb;obtain ⟨D1, hD1⟩ : ∃ D : Int, D = (Yt f s).1 := ⟨_, rfl⟩
 obtain ⟨D2, hD2⟩ : ∃ D : Nat, D = (Yt f s).2 := ⟨_, rfl⟩
 rw [← hD1, ← hD2] at hrun hat;rw [← hD1] at hd1 hd;rw [← hD2] at hd2;clear hD1 hD2;have HG := hid (World.grownBy_alloc w (.cells #[.int .i64 D1, .int .i64 D2] 164) none);have hc := hend _ HG.out;have hbw : b ≠ w.heap.size := by omega
 have hbl : b < w.heap.size := by omega
 clear hend
 by_cases q1 : D1 = k
 ·subst q1;have HR := hid (show atB f s k i = decide (D2 < i) by rw [hat.out]; simp);clear hat hc;go_enter Tryz.func151, Tryz.ntmps151;go_wp2;go_ret;exact ⟨by rw [HR.out]; simp, HG.out⟩
 ·have HR := hid (show atB f s k i = Xr f s k by rw [hat.out]; simp [q1]);have q1' : (D1 == (k : Int)) = false := beq_eq_false_iff_ne.2 q1;clear hat;go_enter Tryz.func151, Tryz.ntmps151;go_upto_region 4 with (fail)
  repeat go_step
  refine hc.mono ?_;rintro e w2 ⟨rfl, hg2⟩;go_wp2;go_ret;exact ⟨by rw [HR.out]; rfl, Zc HG.out hg2⟩
end Go.Proofs.YtiheiaaifdjpeaaGreat
namespace Go.Proofs.YtiheiaaifdjpeaaGreat
open Lib(hid)
def Zhm (f : GFun) : Str := Xt f.blocks 0
def V7 (f : GFun) (_ _ : Nat) (x : GIns) : Bool := !(x.op == 6) && x.labels.contains (Zhm f)
def wantL (f : GFun) (k : Nat) : List Str := ((X1 (Z5 f.blocks))[k]?.getD []).map (Xt f.blocks)
def Zcc (f : GFun) (k _ : Nat) (x : GIns) : Bool := x.op == 6 && !(decide (Kn (wantL f k) = Kn x.labels))
noncomputable def Zcb (f : GFun) (x : GIns) : Bool := (List.range x.args.length).any fun j => !(Xr f (x.args[j]?.getD []) ((Ya f.blocks (x.labels[j]?.getD [])).getD 0))
noncomputable def Vy (f : GFun) (k i : Nat) (x : GIns) : Bool := if x.op = 6 then Zcb f x else (J9 x).any fun s => !(atB f s k i)
def V6 (f : GFun) (q : Nat → Nat → GIns → Bool) : Option (Nat × Nat) := Zp f.blocks fun b y => Zp y.code fun i x => if q b i x then some (b, i) else none
theorem Ks {f : GFun} {q : Nat → Nat → GIns → Bool} (h : ∀ b, b < f.blocks.length → ∀ y, f.blocks[b]? = some y → Zp y.code (fun i x => if q b i x then some (b, i) else none) = none) : V6 f q = none := Zx h
theorem Kr {b : Nat} {y : GBlk} {q : Nat → Nat → GIns → Bool} (h : ∀ i, i < y.code.length → ∀ x, y.code[i]? = some x → q b i x = false) : Zp y.code (fun i x => if q b i x then some (b, i) else none) = none :=
 Zx fun i hi x hx => by simp [h i hi x hx]
theorem Zmh {f : GFun} {q : Nat → Nat → GIns → Bool} {b i : Nat} {y : GBlk} {x : GIns} (h : ∀ j, j < b → ∀ y, f.blocks[j]? = some y → Zp y.code (fun i x => if q j i x then some (j, i) else none) = none) (hy : f.blocks[b]? = some y) (hx : y.code[i]? = some x)
  (h2 : ∀ j, j < i → ∀ z, y.code[j]? = some z → q b j z = false) (hq : q b i x = true) : V6 f q = some (b, i) :=
 Zn h hy (Zn (fun j hj z hz => by simp [h2 j hj z hz]) hx (by simp [hq]))
noncomputable def Jl (g : Gph) (k : Nat) : Bool := by classical exact decide (Path g 0 k)
noncomputable def Xp (f : GFun) : Option (Nat × Nat) := (((List.range f.blocks.length).find? fun k => !(Jl (Z5 f.blocks) k))).map fun k => (k, 0)
noncomputable def Uh (f : GFun) : Nat → Option (Nat × Nat)
 | 17 => V6 f (V7 f)
 | 18 => Xp f
 | 19 => V6 f (Zcc f)
 | 20 => V6 f (Vy f)
 | _ => none
def Ziq (f : GFun) : Nat := f.params.length + ((f.blocks.flatMap (·.code)).filter fun x => !x.dst.isEmpty).length
def Vk (x : GIns) : Int := if x.op = 1 ∨ x.op = 2 then x.n else 0
def fldF (f : GFun) : Int := ((f.blocks.flatMap (·.code)).map Vk).sum
def Qx (p : GProg) : Nat := (p.map Ziq).sum
def K4 (p : GProg) : Int := p.length + (p.map fldF).sum
noncomputable def K8 (p : GProg) (r : Nat) : Option GPt := Zp p fun i f => (Uh f r).map fun x => (i, x.1, x.2)
noncomputable def Y9 (p : GProg) : Nat × GPt :=
 if (Z9 p).1 ≠ 0 then Z9 p
 else match Zp [17, 18, 19, 20] fun _ r => (K8 p r).map fun pt => (r, pt) with
  | some r => r
  | none => if 65536 < Qx p ∨ 65536 < K4 p then (21, (0, 0, 0)) else (0, (0, 0, 0))
structure FOk (f : GFun) : Prop where
 of : OfOk f.blocks
 ne : f.blocks ≠ []
 code : ∀ y ∈ f.blocks, y.code.length ≤ 4096
 phi : ∀ y ∈ f.blocks, ∀ x ∈ y.code, x.op = 6 → x.args.length = x.labels.length
 lab : ∀ y ∈ f.blocks, ∀ x ∈ y.code, ∀ s ∈ x.labels, ∃ k, Ya f.blocks s = some k
theorem idx_lbl (bs : List GBlk) (s : Str) : idxOf (fun b => b.label == s) bs = match Ya bs s with | some i => (i : Int) | none => -1 := by
 have hlab : ∀ (j : Nat) (y : GBlk), bs[j]? = some y → Xt bs j = y.label := fun j y hy => by simp [Xt, hy]
 cases h : Ya bs s with
 | some i =>
  have hi := Ki h;have hl := Zfe h;have hy : bs[i]? = some bs[i] := List.getElem?_eq_getElem hi;refine Qu (fun j hj y hyj => ?_) hy ?_
  ·rw [Ya, List.find?_range_eq_some] at h;have := h.2.2 j hj;rw [hlab j y hyj] at this;simp only [Bool.not_eq_true', beq_eq_false_iff_ne, ne_eq] at this ⊢;exact fun e => this e.symm
  ·rw [hlab i _ hy] at hl;simp [hl]
 | none =>
  refine Vw fun j hj y hyj => ?_
  unfold Ya at h;rw [List.find?_eq_none] at h;have := h j (by simpa using hj);rw [hlab j y hyj] at this;simp only [beq_iff_eq] at this;simp only [beq_eq_false_iff_ne, ne_eq];exact fun e => this e.symm
def Zdj (n : Nat) (p : Int × Nat) : Prop := -1 ≤ p.1 ∧ p.1 < n ∧ p.2 ≤ 4096
theorem Znx {n : Nat} {m : Defs} {s : Str} {p : Int × Nat} (hm : ∀ s q, Ys m s = some q → Zdj n q) (hp : Zdj n p) : ∀ s' q, Ys (Xq m s p) s' = some q → Zdj n q := by
 intro s' q h;rw [Zed] at h
 split at h
 ·cases h; exact hp
 ·exact hm _ _ h
theorem Zph (n : Nat) (hn : 0 < n) (ps : List Str) : ∀ s q, Ys (U8 ps) s = some q → Zdj n q := by
 suffices h : ∀ (ps : List Str) (m : Defs), (∀ s q, Ys m s = some q → Zdj n q) → ∀ s q, Ys (ps.foldl (fun m s => Xq m s (-1, 0)) m) s = some q → Zdj n q from h ps [] (fun s q h => by simp [Ys] at h)
 intro ps
 induction ps with
 | nil => intro m hm; exact hm
 | cons s ps ih => intro m hm; exact ih _ (Znx hm ⟨by simp, by simp only []; omega, by simp⟩)
theorem Zme {n b : Nat} (hb : b < n) (l : List GIns) (hl : l.length ≤ 4096) (m : Defs) (hm : ∀ s q, Ys m s = some q → Zdj n q) : ∀ s q, Ys (Vs b l m) s = some q → Zdj n q := by
 suffices h : ∀ k, k ≤ l.length → ∀ s q, Ys (Vs b (l.take k) m) s = some q → Zdj n q by
  have := h l.length (Nat.le_refl _)
  rwa [List.take_length] at this
 intro k
 induction k with
 | zero => intro _; simpa [Vs] using hm
 | succ k ih =>
  intro hk;rw [Zat (List.getElem?_eq_getElem hk)];exact Znx (ih (by omega)) ⟨by simp only []; omega, by simp only []; omega, by simp only []; omega⟩
theorem Zod {f : GFun} (hne : f.blocks ≠ []) (hc : ∀ y ∈ f.blocks, y.code.length ≤ 4096) (s : Str) : Zdj f.blocks.length (Yt f s) := by
 have hpos := List.length_pos_iff.2 hne;have h : ∀ s q, Ys (Zem f) s = some q → Zdj f.blocks.length q := by
  suffices h : ∀ k, k ≤ f.blocks.length → ∀ s q, Ys (Ue (f.blocks.take k) (U8 f.params)) s = some q → Zdj f.blocks.length q by
   have := h f.blocks.length (Nat.le_refl _)
   rwa [List.take_length] at this
  intro k
  induction k with
  | zero => intro _; simpa [Ue] using Zph _ hpos f.params
  | succ k ih =>
   intro hk;rw [Zas (List.getElem?_eq_getElem hk)];exact Zme hk _ (hc _ (List.getElem_mem hk)) _ (ih (by omega))
 unfold Yt
 cases hq : Ys (Zem f) s with
 | none => exact ⟨by simp, by simpa using hpos, by simp⟩
 | some q => exact h s q hq
end Go.Proofs.YtiheiaaifdjpeaaGreat
namespace Go.Proofs.YtiheiaaifdjpeaaGreat
open Lib(hid)
open Go.RowKit Go.Shelf
def Um (r : Option (Nat × Nat)) : Value := .tuple #[.int .i64 ((r.getD (0, 0)).1 : Nat), .int .i64 ((r.getD (0, 0)).2 : Nat), .bool r.isSome]
theorem Zcf (f : GFun) (b B g : Nat) (lb : Array Value) (w : World) (q : Nat → Nat → GIns → Bool) (hB : B ≤ w.heap.size) (h : Body w B b f)
  (eg : ∀ args w, (callFunc g args).run Tryz.prog w = .ok (.enter g args) w)
  (hp : ∀ (k i : Nat) (y : GBlk) (x : GIns) (va vl : Value) (W : World), f.blocks[k]? = some y → y.code[i]? = some x → Below w.heap.size w W → InsAt W B x va vl →
   Calls Tryz.prog g (#[.int .i64 k, .int .i64 i, Ve x va vl] ++ lb) W fun e W' => e = .returned (.bool (q k i x)) ∧ Below w.heap.size w W') :
  Calls Tryz.prog 136 #[.pointer (some ⟨b, 0, none⟩), .func (.func g) #[] lb] w fun e w' => e = .returned (Um (V6 f q)) ∧ Below w.heap.size w w' := by
 obtain ⟨A1, d1, A2, d2, S, S2, O, M, order, o, h⟩ := h;obtain ⟨j1, _⟩ := Za h.blk;have e2 : w.cell? ⟨b, 2, none⟩ = some (.slice A2 f.blocks.length d2) := j1 2;obtain ⟨A2', d2', hAe, m2, hl2, hc2, hA⟩ := h.fn.blocks.open_;simp only [Value.slice.injEq] at hAe;obtain ⟨rfl, _, rfl⟩ := hAe;have hlt := h.lt;have HA := hid hA;clear j1 h hA;go_enter Tryz.func136, Tryz.ntmps136;go_wp2;go_loopw [17] (fun s8 wr => ∃ k : Nat, k ≤ f.blocks.length ∧ s8 = .int .i64 k ∧ Hid (Below w.heap.size w wr) ∧ Hid (∀ j, j < k → ∀ y, f.blocks[j]? = some y → Zp y.code (fun i x => if q j i x then some (j, i) else none) = none)) (fun s8 _ => f.blocks.length - (intOf s8).toNat)
 case atStart => exact ⟨0, Nat.zero_le _, rfl, Below.refl _ _, Zz⟩
 case round =>
  obtain ⟨k, hkl, rfl, hI, hP⟩ := hrel;clear e2
  by_cases hl : k < f.blocks.length
  ·obtain ⟨y, b1, off1, hy, rfl, hbB1, hr1⟩ := HA.out.at_ hl;obtain ⟨A5, d5, hyy, m5, e0, e1⟩ := Yg hr1;have hlow := hI.out;have hbn1 : b1 ≠ wr.heap.size := by have := hlow.size; omega
   have hbl1 : b1 < wr.heap.size := by have := hlow.size; omega
   replace e0 := cur hlow (by omega) e0;replace e1 := cur hlow (by omega) e1;have Hyy := hid hyy;have Hy := hid hy;have h9 := hid (hI.out.alloc (by have := hlow.size; omega) (.cells #[.string ⟨y.label.toArray⟩, .slice A5 y.code.length d5] 61));clear hr1 hy hyy hlow;go_wp2_with fail;go_loopw [25] (fun s8 wr => ∃ i : Nat, i ≤ y.code.length ∧ s8 = .int .i64 i ∧ Hid (Below w.heap.size w wr) ∧ Hid (∀ j, j < i → ∀ z, y.code[j]? = some z → q k j z = false)) (fun s8 _ => y.code.length - (intOf s8).toNat)
   case atStart => exact ⟨0, Nat.zero_le _, rfl, h9, Zz⟩
   case round =>
    obtain ⟨j, hjl, rfl, hJ, hQ⟩ := hrel;clear h9 e0 e1 hbn1 hbl1 hI
    by_cases hl2 : j < y.code.length
    ·obtain ⟨z, b3, off3, hz, rfl, hbB3, hr3⟩ := Hyy.out.code.at_ hl2;obtain ⟨A6, d6, A7, d7, hzz, m6, m7, g0, g1, g2, g3, g4, g5, g6, g7⟩ := Y8 hr3;have hlow := hJ.out;have hbn3 : b3 ≠ wr.heap.size := by have := hlow.size; omega
     have hbl3 : b3 < wr.heap.size := by have := hlow.size; omega
     replace g0 := cur hlow (by omega) g0;replace g1 := cur hlow (by omega) g1;replace g2 := cur hlow (by omega) g2;replace g3 := cur hlow (by omega) g3;replace g4 := cur hlow (by omega) g4;replace g5 := cur hlow (by omega) g5;replace g6 := cur hlow (by omega) g6;replace g7 := cur hlow (by omega) g7;have hlow2 := hJ.out.alloc (show w.heap.size ≤ wr.heap.size by have := hlow.size; omega) (.cells #[.int .u8 z.op, .string ⟨z.dst.toArray⟩, .string ⟨z.a.toArray⟩, .string ⟨z.b.toArray⟩, .int .i64 z.n, .string ⟨z.fn.toArray⟩, .slice A6 z.args.length d6, .slice A7 z.labels.length d7] 38);have hcall := hp k j y z (.slice A6 z.args.length d6) (.slice A7 z.labels.length d7) _ Hy.out hz hlow2 (hzz.below hlow2 hB);simp only [Ve] at hcall;have Hz := hid hz;have Hlow := hid hlow2;clear hr3 hz hzz hlow hlow2
     cases hq : q k j z with
     | true =>
      rw [hq] at hcall;go_wp2_with (go_at_fn g; refine hcall.mono ?_; rintro e w' ⟨rfl, hb'⟩);refine bodyPost_ret (v := Um (some (k, j))) (by simp [results, Tryz.results136, go_sem, Um]) rfl ⟨by rw [Zmh hP.out Hy.out Hz.out hQ.out hq], hb'⟩
     | false =>
      rw [hq] at hcall;go_wp2_with (go_at_fn g; refine hcall.mono ?_; rintro e w' ⟨rfl, hb'⟩);go_roundw
      case rel => exact ⟨j + 1, by omega, by go_num, hb', Zw Hz.out hQ.out hq⟩
      case measure => simp [intOf]; omega
    ·have hj : ¬ j < y.code.length := hl2;go_wp2;go_roundw
     case rel => exact ⟨k + 1, by omega, by go_num, hJ, Zw Hy.out hP.out (Kr (Z8 hj hQ.out))⟩
     case measure => simp [intOf]; omega
  ·go_wp2;refine bodyPost_ret (v := Um none) (by simp [results, Tryz.results136, go_sem, Um]) rfl ⟨by rw [Ks (Z8 hl hP.out)], hI⟩
end Go.Proofs.YtiheiaaifdjpeaaGreat

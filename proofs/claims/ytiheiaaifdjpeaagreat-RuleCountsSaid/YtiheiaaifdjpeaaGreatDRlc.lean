/- What package rule says of a program, in plain Lean, and how great it is. Condition: the program is well formed. -/
import Derived.Test.YtiheiaaifdjpeaaGreatDRlb
import Derived.Test.YtiheiaaifdjpeaaGreatDSiI
set_option linter.unusedVariables false
set_option linter.unusedSimpArgs false
set_option linter.unusedSectionVars false
set_option maxHeartbeats 8000000
set_option maxRecDepth 100000
namespace Go.Proofs.YtiheiaaifdjpeaaGreat
open Lib(hid)
theorem NOk.callArgs {p : GProg} (h : NOk p) {i b k : Nat} {f : GFun} {y : GBlk} {x : GIns} (hf : p[i]? = some f) (hy : f.blocks[b]? = some y) (hx : y.code[k]? = some x) (hc : Yf x.op = true) : x.args.length ≤ 8 := by
 have h1 := Zo (show Zp p mpF = none from h 5 (by omega) (by omega)) hf;unfold mpF at h1
 split at h1
 ·cases h1
 ·have h2 := Zo (Zo h1 hy) hx;unfold mpC at h2
  split at h2
  ·cases h2
  ·rename_i h3
   simp only [hc, Bool.true_and, decide_eq_true_eq] at h3;omega
theorem Zlb {p : GProg} (h : NOk p) (hs : SOk p) {i b k : Nat} {f : GFun} {y : GBlk} {x : GIns} (hf : p[i]? = some f) (hy : f.blocks[b]? = some y) (hx : y.code[k]? = some x) (h6 : x.op = 6) : x.args.length ≤ 64 := by
 have h1 : V6 f (Zcc f) = none := hs.rule (r := 19) (by decide) hf;have h2 := J2 h1 hy hx;unfold Zcc at h2;simp only [h6, beq_self_eq_true, Bool.true_and, Bool.not_eq_false', decide_eq_true_eq] at h2;have h3 := congrArg List.length h2;rw [K0, K0] at h3;rw [h.phi hf hy hx h6, ← h3];unfold wantL;rw [List.length_map];have h4 := (h.blocks hf).2;unfold X1;rw [List.getElem?_map]
 cases hr : (List.range (Z5 f.blocks).length)[b]? with
 | none => simp
 | some r =>
  simp only [Option.map_some, Option.getD_some];refine Nat.le_trans (List.length_filter_le _ _) ?_;rw [List.length_range];unfold Z5;rw [List.length_map];exact h4
theorem fn_ix' {p : GProg} (h : NOk p) {i : Nat} {x : GFun} (hx : p[i]? = some x) : ixK (Zv p p.length) x.name = i ∧ Zez (Zv p p.length) x.name = true := by
 rw [Zbb h (Nat.le_refl _), List.take_length];have hil := (List.getElem?_eq_some_iff.1 hx).1;have hn := h.ffresh hx;have hp : (p.take i).map (·.name) ++ [x.name] <+: p.map (·.name) := by
  have e : (p.take (i + 1)).map (·.name) = (p.take i).map (·.name) ++ [x.name] := by rw [List.take_add_one, hx]; simp
  rw [← e];exact (List.take_prefix _ _).map _
 obtain ⟨h1, h2⟩ := Zah hp (by
                                   intro hm
                                   rw [List.contains_iff_mem.2 hm] at hn
                                   cases hn)
 have hc : (p.map (·.name)).contains x.name = true := List.contains_iff_mem.2 h2;refine ⟨?_, hc⟩;unfold ixK;rw [if_pos hc, h1, List.length_map, List.length_take];omega
theorem Zru {p : GProg} (h : NOk p) {i b k : Nat} {f : GFun} {y : GBlk} {x : GIns} (hf : p[i]? = some f) (hy : f.blocks[b]? = some y) (hx : y.code[k]? = some x) (hc : x.op = 10 ∨ x.op = 4) : ∃ (j : Nat) (g : GFun), p[j]? = some g ∧ g.name = x.fn ∧ Xj p x.fn = (j : Int) := by
 have h1 := Kt (show Zbi p = none from h 13 (by omega) (by omega)) hf hy hx;have h2 : ¬ Xj p x.fn < 0 := by
  intro hn
  rcases hc with hc | hc <;> simp [hc, hn] at h1
 unfold Xj at h2 ⊢;unfold idxOf at h2 ⊢
 cases hi : p.findIdx? (fun f => f.name == x.fn) with
 | none => rw [hi] at h2; simp at h2
 | some j =>
  obtain ⟨hj, hj2, -⟩ := List.findIdx?_eq_some_iff_getElem.1 hi;exact ⟨j, p[j], List.getElem?_eq_getElem hj, by simpa using hj2, rfl⟩
theorem Zac {p : GProg} (h : NOk p) {i b k : Nat} {f : GFun} {y : GBlk} {x : GIns} (hf : p[i]? = some f) (hy : f.blocks[b]? = some y) (hx : y.code[k]? = some x) (hc : x.op = 10) :
  ∃ g, p[ixK (Zv p p.length) x.fn]? = some g ∧ g.params.length = x.args.length := by
 obtain ⟨j, g, h1, h2, h3⟩ := Zru h hf hy hx (.inl hc);have h4 := Kt (show Zfs p = none from h 14 (by omega) (by omega)) hf hy hx;simp only [hc, beq_self_eq_true, Bool.true_and, h3, Int.natCast_nonneg, decide_true, X8, Int.toNat_natCast, h1, Option.map_some, Option.getD_some, Bool.not_eq_false', beq_iff_eq] at h4;refine ⟨g, ?_, h4⟩;rw [← h2, (fn_ix' h h1).1];exact h1
def isV (s : Str) : Bool := !s.isEmpty && !(s == nought)
theorem vars_ne {p : GProg} {x : Nat × Str} (hx : x ∈ (Zg p p.length).vars) (h : NOk p) : x.2 ≠ [] := by
 obtain ⟨-, f, hf, h2⟩ := Uz (Nat.le_refl _) x hx
 rcases h2 with h2 | ⟨q, -, h3, h4⟩
 ·exact (Ka (h.pname hf x.2 h2)).2
 ·rw [h4]; exact h3
theorem Ztw {p : GProg} (h : NOk p) (i : Nat) {s : Str} (hs : isV s = false) : vN p i s = -1 := by
 unfold vN Zam
 split
 ·split
  ·rfl
  ·rename_i hn
   have he : s = [] := by
    cases s with
    | nil => rfl
    | cons a l => simp [isV, hn] at hs
   subst he
   split
   ·rename_i hk
    exact absurd rfl (vars_ne (List.contains_iff_mem.1 hk) h)
   ·rfl
 ·rfl
theorem Zue {p : GProg} {i : Nat} {s : Str} (hi : i < p.length) (hs : isV s = true) (hm : (i, s) ∈ (Zg p p.length).vars) : 0 ≤ vN p i s ∧ vN p i s < (Zg p p.length).vars.length := by
 have hn : s ≠ nought := by
  rintro rfl;simp [isV] at hs
 have := List.idxOf_lt_length_iff.2 hm;unfold vN;rw [Zlp hi hn hm];simp only;omega
theorem Zuc {p : GProg} (h : NOk p) {i b k : Nat} {f : GFun} {y : GBlk} {x : GIns} (hf : p[i]? = some f) (hy : f.blocks[b]? = some y) (hx : y.code[k]? = some x) (hd : x.dst ≠ []) : (i, x.dst) ∈ (Zg p p.length).vars := by
 obtain ⟨-, -, -, h5, -⟩ := Zrx h hf hy hx rfl rfl;exact (h5 hd).1.2
theorem Zuj {p : GProg} (h : NOk p) {i b k : Nat} {f : GFun} {y : GBlk} {x : GIns} (hf : p[i]? = some f) (hy : f.blocks[b]? = some y) (hx : y.code[k]? = some x) {s : Str} (hs : s ∈ x.a :: x.b :: x.args) (hv : isV s = true) : (i, s) ∈ (Zg p p.length).vars := by
 have h1 := Zo (Zo (Zo (show Zp p nvF = none from h 16 (by omega) (by omega)) hf) hy) hx;unfold nvC at h1
 split at h1
 ·cases h1
 ·rename_i h2
  have h3 : (Vm f).contains s = true := by
   cases hc : (Vm f).contains s with
   | true => rfl
   | false => exact absurd (List.any_eq_true.2 ⟨s, hs, by rw [hc]; rfl⟩) h2
  have h4 := List.contains_iff_mem.1 h3;simp only [Vm, List.mem_cons, List.mem_append] at h4
  rcases h4 with rfl | rfl | h4 | h4
  ·simp [isV] at hv
  ·simp [isV] at hv
  ·obtain ⟨j, hj, e⟩ := List.mem_iff_getElem.1 h4;exact ((Zsu h hf (show j ≤ f.params.length by omega)).2 s (by rw [← e]; exact List.getElem?_eq_getElem hj)).2
  ·unfold X4 U9 at h4;obtain ⟨y', hy', h5⟩ := List.mem_flatMap.1 h4;obtain ⟨x', hx', rfl⟩ := List.mem_map.1 h5;obtain ⟨b', hb', e'⟩ := List.mem_iff_getElem.1 hy';obtain ⟨k', hk', e2⟩ := List.mem_iff_getElem.1 hx';refine Zuc h hf (b := b') (y := y') (by rw [← e']; exact List.getElem?_eq_getElem hb') (k := k') (by rw [← e2]; exact List.getElem?_eq_getElem hk') (fun e => ?_);rw [e] at hv;simp [isV] at hv
theorem Ztv {p : GProg} (h : NOk p) {i b k : Nat} {f : GFun} {y : GBlk} {x : GIns} (hf : p[i]? = some f) (hy : f.blocks[b]? = some y) (hx : y.code[k]? = some x) {s : Str} (hs : s ∈ x.a :: x.b :: x.args) :
  (isV s = true ∧ 0 ≤ vN p i s ∧ vN p i s < (Zg p p.length).vars.length) ∨ (isV s = false ∧ vN p i s = -1) := by
 cases hv : isV s with
 | true => exact .inl ⟨rfl, Zue (List.getElem?_eq_some_iff.1 hf).1 hv (Zuj h hf hy hx hs hv)⟩
 | false => exact .inr ⟨rfl, Ztw h i hv⟩
theorem Zof {p : GProg} (h : NOk p) {i b k : Nat} {f : GFun} {y : GBlk} {x : GIns} (hf : p[i]? = some f) (hy : f.blocks[b]? = some y) (hx : y.code[k]? = some x) :
  (x.dst ≠ [] ∧ 0 ≤ vN p i x.dst ∧ vN p i x.dst < (Zg p p.length).vars.length) ∨ (x.dst = [] ∧ vN p i x.dst = -1) := by
 by_cases hd : x.dst = []
 ·exact .inr ⟨hd, Ztw h i (by rw [hd]; rfl)⟩
 ·refine .inl ⟨hd, Zue (List.getElem?_eq_some_iff.1 hf).1 ?_ (Zuc h hf hy hx hd)⟩;have := (Ka (h.dname hf hy hx hd)).1
  cases hx : x.dst with
  | nil => exact absurd hx hd
  | cons a l => rw [hx] at this; simp [isV, this]
def Y7 (p : GProg) (nd : Nat) (q : GPt × GIns) : List GRel :=
 if q.2.op = 1 ∨ q.2.op = 2 then V5 ⟨1, vN p q.1.1 q.2.dst, ((J8 p q.1).1 : Nat), 0⟩ []
 else if q.2.op = 4 then V5 ⟨1, vN p q.1.1 q.2.dst, (fobj p q.2.fn : Nat), 0⟩ []
 else if q.2.op = 5 then Xd (vN p q.1.1 q.2.dst) (vN p q.1.1 q.2.a)
 else if q.2.op = 6 then q.2.args.flatMap fun s => Xd (vN p q.1.1 q.2.dst) (vN p q.1.1 s)
 else if q.2.op = 7 then V5 ⟨5, vN p q.1.1 q.2.dst, vN p q.1.1 q.2.a, q.2.n⟩ [vN p q.1.1 q.2.a]
 else if q.2.op = 8 then V5 ⟨3, vN p q.1.1 q.2.dst, vN p q.1.1 q.2.a, 0⟩ [vN p q.1.1 q.2.a]
 else if q.2.op = 9 then V5 ⟨4, vN p q.1.1 q.2.b, vN p q.1.1 q.2.a, 0⟩ [vN p q.1.1 q.2.a, vN p q.1.1 q.2.b]
 else if q.2.op = 10 then (match p[ixK (Zv p p.length) q.2.fn]? with
                           | some x => Kv p q.1.1 q.2 (ixK (Zv p p.length) q.2.fn) x
                           | none => [])
 else if q.2.op = 11 then V5 ⟨6, vN p q.1.1 q.2.a, 0, nd⟩ [vN p q.1.1 q.2.a]
 else []
def Y4 (p : GProg) (q : GPt × GIns) : List (GPt × List Int × Int) := if q.2.op = 11 then [(q.1, q.2.args.map (vN p q.1.1), vN p q.1.1 q.2.dst)] else []
def Z7 (p : GProg) (l : List (GPt × GIns)) : List (GPt × List Int × Int) := l.flatMap (Y4 p)
def V2 (p : GProg) : Nat → List (GPt × GIns) → List GRel
 | _, [] => []
 | nd, q :: l => Y7 p nd q ++ V2 p (nd + (Y4 p q).length) l
def Yq (p : GProg) (l : List (GPt × GIns)) : List GRel := V2 p 0 l
theorem Zda (p : GProg) : ∀ (l : List (GPt × GIns)) (nd : Nat) (q : GPt × GIns), V2 p nd (l ++ [q]) = V2 p nd l ++ Y7 p (nd + (Z7 p l).length) q
 | [], nd, q => by simp [V2, Z7]
 | x :: l, nd, q => by
  have := Zda p l (nd + (Y4 p x).length) q;simp only [List.cons_append, V2, this, List.append_assoc, Z7, List.flatMap_cons, List.length_append, Nat.add_assoc]
theorem Zld (p : GProg) (l : List (GPt × GIns)) (q : GPt × GIns) : Yq p (l ++ [q]) = Yq p l ++ Y7 p (Z7 p l).length q := by
 unfold Yq;rw [Zda, Nat.zero_add]
theorem Zir (p : GProg) (l : List (GPt × GIns)) (q : GPt × GIns) : Z7 p (l ++ [q]) = Z7 p l ++ Y4 p q := by simp [Z7]
theorem Zsx (r : GRel) (l : List Int) : (V5 r l).length ≤ 1 := by
 unfold V5
 split <;> simp
theorem Znb {p : GProg} (h : NOk p) (hs : SOk p) (nd : Nat) {q : GPt × GIns} (hq : q ∈ pts p) : (Y7 p nd q).length ≤ 5000 := by
 obtain ⟨f, y, hf, hy, hx⟩ := Xn (show (q.1, q.2) ∈ pts p from hq);unfold Y7;have h1 : ∀ r l, (V5 r l).length ≤ 5000 := fun r l => Nat.le_trans (Zsx r l) (by omega)
 split
 ·exact h1 _ _
 split
 ·exact h1 _ _
 split
 ·exact h1 _ _
 split
 ·rename_i h6
  have := Zlb h hs hf hy hx h6;have := Zag (fun s => Xd (vN p q.1.1 q.2.dst) (vN p q.1.1 s)) (fun _ => U5 _ _) q.2.args;omega
 split
 ·exact h1 _ _
 split
 ·exact h1 _ _
 split
 ·exact h1 _ _
 split
 ·rename_i h10
  obtain ⟨g, hg, ha⟩ := Zac h hf hy hx h10;rw [hg];simp only [Kv, List.length_append];have a1 := Zag (fun t : Nat × Str => Xd ((t.1 : Nat) : Int) (vN p q.1.1 t.2)) (fun _ => U5 _ _) ((g.params.map fun s => (Zg p p.length).vars.idxOf (ixK (Zv p p.length) q.2.fn, s)).zip q.2.args);have a2 := Zag (fun r : Int => Xd (vN p q.1.1 q.2.dst) r) (fun _ => U5 _ _) (Xv p (ixK (Zv p p.length) q.2.fn) (pts [g]));have a3 := Zcd p (ixK (Zv p p.length) q.2.fn) (pts [g]);have a4 := Q1 h hg;have a5 := h.callArgs hf hy hx (by rw [h10]; rfl);rw [List.length_zip, List.length_map] at a1;omega
 split
 ·exact h1 _ _
 ·simp
theorem Zft {p : GProg} (h : NOk p) (hs : SOk p) : ∀ (l : List (GPt × GIns)) (nd : Nat), (∀ q ∈ l, q ∈ pts p) → (V2 p nd l).length ≤ 5000 * l.length
 | [], _, _ => by simp [V2]
 | q :: l, nd, hl => by
  have h1 := Znb h hs nd (hl q (by simp));have h2 := Zft h hs l (nd + (Y4 p q).length) fun q hq => hl q (by simp [hq])
  simp only [V2, List.length_append, List.length_cons];omega
theorem Zfu {p : GProg} (h : NOk p) (hs : SOk p) {l : List (GPt × GIns)} (hl : ∀ q ∈ l, q ∈ pts p) (hn : l.length ≤ 4096) : (Yq p l).length ≤ 20480000 := by
 have := Zft h hs l 0 hl;unfold Yq;omega
theorem Qt (p : GProg) : ∀ (l : List (GPt × GIns)), (Z7 p l).length ≤ l.length
 | [] => by simp [Z7]
 | q :: l => by
  have h1 := Qt p l;have h2 : (Y4 p q).length ≤ 1 := by unfold Y4; split <;> simp
  unfold Z7 at h1 ⊢;rw [List.flatMap_cons, List.length_append, List.length_cons];omega
end Go.Proofs.YtiheiaaifdjpeaaGreat
namespace Go.Proofs.YtiheiaaifdjpeaaGreat
open Lib(hid)
open Go.RowKit Go.Shelf
variable {wE : World} {base kb lo Bi m : Nat} {p : GProg} {pt : GPt} {z : GIns} {va vl vL0 vD0 : Value} {W W' : World} {vL vD v' : Value} {R : List GRel} {D : List GDial}
def Zkm (o : Nat) : Bool := decide (1 ≤ o) && decide (o ≤ 11) && !(o == 3)
def Zks : Nat → Nat
 | 1 => 71
 | 2 => 71
 | 4 => 72
 | 5 => 73
 | 6 => 74
 | 7 => 75
 | 8 => 76
 | 9 => 77
 | 10 => 78
 | 11 => 79
 | _ => 0
def Zeo (ptr : Value) : List (Int × Value) := [((1 : Int), Value.func (.func 71) #[ptr] #[]), ((2 : Int), Value.func (.func 71) #[ptr] #[]), ((4 : Int), Value.func (.func 72) #[ptr] #[]), ((5 : Int), Value.func (.func 73) #[ptr] #[]), ((6 : Int), Value.func (.func 74) #[ptr] #[]), ((7 : Int), Value.func (.func 75) #[ptr] #[]), ((8 : Int), Value.func (.func 76) #[ptr] #[]), ((9 : Int), Value.func (.func 77) #[ptr] #[]), ((10 : Int), Value.func (.func 78) #[ptr] #[]), ((11 : Int), Value.func (.func 79) #[ptr] #[])]
theorem Zep {o : Nat} (h : Zkm o = true) : o = 1 ∨ o = 2 ∨ o = 4 ∨ o = 5 ∨ o = 6 ∨ o = 7 ∨ o = 8 ∨ o = 9 ∨ o = 10 ∨ o = 11 := by
 simp only [Zkm, Bool.and_eq_true, decide_eq_true_eq, Bool.not_eq_true', beq_eq_false_iff_ne] at h;omega
theorem aget_do (ptr : Value) {o : Nat} (h : Zkm o = true) : Ys (Zeo ptr) (o : Int) = some (.func (.func (Zks o)) #[ptr] #[]) := by
 rcases Zep h with rfl | rfl | rfl | rfl | rfl | rfl | rfl | rfl | rfl | rfl <;> rfl
theorem Zre (ptr : Value) {o : Nat} (h : Zkm o = false) : Ys (Zeo ptr) (o : Int) = none := by
 refine Zbq _ _ fun x hx e => ?_
 simp only [Zeo, List.mem_cons, List.not_mem_nil, or_false] at hx;have : o ≠ 1 ∧ o ≠ 2 ∧ o ≠ 4 ∧ o ≠ 5 ∧ o ≠ 6 ∧ o ≠ 7 ∧ o ≠ 8 ∧ o ≠ 9 ∧ o ≠ 10 ∧ o ≠ 11 := by
  refine ⟨?_, ?_, ?_, ?_, ?_, ?_, ?_, ?_, ?_, ?_⟩ <;> (rintro rfl; revert h; decide)
 rcases hx with rfl | rfl | rfl | rfl | rfl | rfl | rfl | rfl | rfl | rfl <;> (simp only at e; omega)
theorem Zpk {o : Nat} (h : Zkm o = true) : ∀ args w, (callFunc (Zks o) args).run Tryz.prog w = .ok (.enter (Zks o) args) w := by
 rcases Zep h with rfl | rfl | rfl | rfl | rfl | rfl | rfl | rfl | rfl | rfl
 ·exact enters_of Tryz.func71 (by kernel_rfl) rfl
 ·exact enters_of Tryz.func71 (by kernel_rfl) rfl
 ·exact enters_of Tryz.func72 (by kernel_rfl) rfl
 ·exact enters_of Tryz.func73 (by kernel_rfl) rfl
 ·exact enters_of Tryz.func74 (by kernel_rfl) rfl
 ·exact enters_of Tryz.func75 (by kernel_rfl) rfl
 ·exact enters_of Tryz.func76 (by kernel_rfl) rfl
 ·exact enters_of Tryz.func77 (by kernel_rfl) rfl
 ·exact enters_of Tryz.func78 (by kernel_rfl) rfl
 ·exact enters_of Tryz.func79 (by kernel_rfl) rfl
def dkey (d : GDial) : GPt × List Int × Int := (d.at_, d.args, d.dst)
def MkDo (wE : World) (base kb m : Nat) (p : GProg) (pt : GPt) (z : GIns) (va vl vL0 vD0 : Value) (R : List GRel) (D : List GDial) (e : Ending) (w' : World) : Prop :=
 e = .returned (.tuple #[]) ∧ ∃ vL' vD' D', MkS wE base kb m pt z va vl vL0 vD0 w' vL' vD' (R ++ Y7 p D.length (pt, z)) D' ∧ D'.map dkey = D.map dkey ++ Y4 p (pt, z)
theorem MkOut.do_ {X : List GRel} {e : Ending} {w' : World} (h : MkOut wE base kb m pt z va vl vL0 vD0 vD R D X e w') (hX : Y7 p D.length (pt, z) = X) (hd : z.op ≠ 11) : MkDo wE base kb m p pt z va vl vL0 vD0 R D e w' := by
 obtain ⟨h1, vL', h2⟩ := h;refine ⟨h1, vL', vD, D, by rw [hX]; exact h2, ?_⟩;simp [Y4, hd]
theorem do_any (E : MkE wE base kb lo Bi m p pt z va vl vL0 vD0) (S : MkS wE base kb m pt z va vl vL0 vD0 W vL vD R D) (hs : SOk p) (hR : R.length ≤ 21000000) (hD : D.length ≤ 5000) (hq : (pt, z) ∈ pts p) (hdo : Zkm z.op = true) :
  Calls Tryz.prog (Zks z.op) #[.pointer (some ⟨kb, 0, none⟩)] W (MkDo wE base kb m p pt z va vl vL0 vD0 R D) := by
 have hok := (S.map E (World.grownBy.refl W none)).ok;obtain ⟨f, y, hf, hy, hx⟩ := Xn hq
 rcases Zep hdo with h | h | h | h | h | h | h | h | h | h
 ·have := Zhu E S (by omega);rw [h];exact this.mono fun e w' he => he.do_ (by simp [Y7, h]) (by omega)
 ·have := Zhu E S (by omega);rw [h];exact this.mono fun e w' he => he.do_ (by simp [Y7, h]) (by omega)
 ·have := Zqm E S (by omega);rw [h];exact this.mono fun e w' he => he.do_ (by simp [Y7, h]) (by omega)
 ·have := Zqo E S (by omega);rw [h];exact this.mono fun e w' he => he.do_ (by simp [Y7, h, Xd]) (by omega)
 ·have := Ztd E S (by have := Zlb hok hs hf hy hx h; omega);rw [h];exact this.mono fun e w' he => he.do_ (by simp [Y7, h]) (by omega)
 ·have := Znf E S (by omega);rw [h];exact this.mono fun e w' he => he.do_ (by simp [Y7, h]) (by omega)
 ·have := Zqr E S (by omega);rw [h];exact this.mono fun e w' he => he.do_ (by simp [Y7, h]) (by omega)
 ·have := Zni E S (by omega);rw [h];exact this.mono fun e w' he => he.do_ (by simp [Y7, h]) (by omega)
 ·obtain ⟨g, hg, ha⟩ := Zac hok hf hy hx h;have := Zqn E S hg ha (by omega);rw [h];exact this.mono fun e w' he => he.do_ (by simp [Y7, h, hg]) (by omega)
 ·have := Zng E S (by omega) (by omega) (by have := hok.callArgs hf hy hx (by rw [h]; rfl); omega);rw [h];refine this.mono fun e w' he => ?_
  obtain ⟨h1, vL', vD', d, h2, h3, h4, h5⟩ := he;refine ⟨h1, vL', vD', D ++ [d], by simpa [Y7, h] using h2, ?_⟩;simp [Y4, h, dkey, h3, h4, h5]
theorem Zfr {p : GProg} {i : Nat} {q : GPt × GIns} (h : (pts p)[i]? = some q) : Yq p ((pts p).take (i + 1)) = Yq p ((pts p).take i) ++ Y7 p (Z7 p ((pts p).take i)).length q ∧ Z7 p ((pts p).take (i + 1)) = Z7 p ((pts p).take i) ++ Y4 p q := by
 have e : (pts p).take (i + 1) = (pts p).take i ++ [q] := by rw [List.take_add_one, h]; rfl
 rw [e];exact ⟨Zld _ _ _, Zir _ _ _⟩
theorem Znc {p : GProg} {nd : Nat} {q : GPt × GIns} (h : Zkm q.2.op = false) : Y7 p nd q = [] ∧ Y4 p q = [] := by
 have : q.2.op ≠ 1 ∧ q.2.op ≠ 2 ∧ q.2.op ≠ 4 ∧ q.2.op ≠ 5 ∧ q.2.op ≠ 6 ∧ q.2.op ≠ 7 ∧ q.2.op ≠ 8 ∧ q.2.op ≠ 9 ∧ q.2.op ≠ 10 ∧ q.2.op ≠ 11 := by
  refine ⟨?_, ?_, ?_, ?_, ?_, ?_, ?_, ?_, ?_, ?_⟩ <;> (intro e; rw [e] at h; revert h; decide)
 obtain ⟨h1, h2, h4, h5, h6, h7, h8, h9, h10, h11⟩ := this;simp [Y7, Y4, h1, h2, h4, h5, h6, h7, h8, h9, h10, h11]
def ins0 : GIns := ⟨0, [], [], [], 0, [], [], []⟩
theorem set14 {w : World} {g : Nat} {T : TypeId} {c0 c1 c2 c3 c4 c5 c6 c7 c8 c9 c10 c11 c12 c13 : Value} (h : w.heap[g]? = some (.cells #[c0, c1, c2, c3, c4, c5, c6, c7, c8, c9, c10, c11, c12, c13] T (0, 0))) (a4 a5 a6 a7 a8 a9 a10 a11 : Value) : ((((((((w.setCell ⟨g, 4, none⟩ a4).setCell ⟨g, 5, none⟩ a5).setCell ⟨g, 6, none⟩ a6).setCell ⟨g, 7, none⟩ a7).setCell ⟨g, 8, none⟩ a8).setCell ⟨g, 9, none⟩ a9).setCell ⟨g, 10, none⟩ a10).setCell ⟨g, 11, none⟩ a11).heap[g]? = some (.cells #[c0, c1, c2, c3, a4, a5, a6, a7, a8, a9, a10, a11, c12, c13] T (0, 0)) := by
 replace h := Zs h 4 a4;simp only [List.setIfInBounds_toArray, List.set_cons_zero, List.set_cons_succ] at h;replace h := Zs h 5 a5;simp only [List.setIfInBounds_toArray, List.set_cons_zero, List.set_cons_succ] at h;replace h := Zs h 6 a6;simp only [List.setIfInBounds_toArray, List.set_cons_zero, List.set_cons_succ] at h;replace h := Zs h 7 a7;simp only [List.setIfInBounds_toArray, List.set_cons_zero, List.set_cons_succ] at h;replace h := Zs h 8 a8;simp only [List.setIfInBounds_toArray, List.set_cons_zero, List.set_cons_succ] at h;replace h := Zs h 9 a9;simp only [List.setIfInBounds_toArray, List.set_cons_zero, List.set_cons_succ] at h;replace h := Zs h 10 a10;simp only [List.setIfInBounds_toArray, List.set_cons_zero, List.set_cons_succ] at h;replace h := Zs h 11 a11;simp only [List.setIfInBounds_toArray, List.set_cons_zero, List.set_cons_succ] at h;exact h
theorem MkS.next {w3 wr W8 : World} {kb m base : Nat} {pt pt' : GPt} {z z' : GIns} {va vl va' vl' : Value} {vL vD : Value} {R : List GRel} {D : List GDial} (h : MkS w3 base kb m pt z va vl (.slice none 0 0) (.slice none 0 0) wr vL vD R D) (hkb : kb < base)
  (hb : W8.heap[kb]? = some (.cells #[.pointer (some ⟨m, 0, none⟩), .int .i64 pt'.1, .int .i64 pt'.2.1, .int .i64 pt'.2.2, .int .u8 z'.op, .string ⟨z'.dst.toArray⟩, .string ⟨z'.a.toArray⟩, .string ⟨z'.b.toArray⟩, .int .i64 z'.n, .string ⟨z'.fn.toArray⟩, va', vl', vL, vD] 120 (0, 0)))
  (hc : Chg (fun n => n = kb) wr W8) : MkS w3 base kb m pt' z' va' vl' (.slice none 0 0) (.slice none 0 0) W8 vL vD R D :=
 ⟨hb, hc.owns h.ol (fun g e q => by have := (h.ol.lt g e).1; omega), hc.owns h.od (fun g e q => by have := (h.od.lt g e).1; omega), h.ap, fun d hd => ⟨hc.owns (h.ar d hd).1 (fun g e q => by have := ((h.ar d hd).1.lt g e).1; omega), (h.ar d hd).2⟩, h.chg.trans hc (fun n _ e => .inl e), h.fl, h.fd⟩
theorem Zfv {w : World} (h : MapL lo w m p) (hs : SOk p) : Calls Tryz.prog 49 #[.pointer (some ⟨m, 0, none⟩)] w fun e w' => ∃ (vL vD : Value) (D : List GDial), e = .returned (.tuple #[vL, vD]) ∧ w'.ownsRow w.heap.size 84 4 vL (Yq p (pts p)).length ((Yq p (pts p)).flatMap Vr) ∧
  w'.ownsRow w.heap.size 82 5 vD D.length (D.flatMap Vq) ∧ (∀ d ∈ D, w'.ownsRow w.heap.size 3 1 d.row d.args.length (d.args.map Jd)) ∧ D.map dkey = Z7 p (pts p) ∧ w.grownBy w' none := by
 have hN := h.ok;obtain ⟨kb, hkb⟩ : ∃ kb, kb = w.heap.size := ⟨_, rfl⟩
 obtain ⟨w1, hw1⟩ : ∃ w1 : World, w1 = w.alloc (.cells #[.pointer (some ⟨m, 0, none⟩), .int .i64 0, .int .i64 0, .int .i64 0, .int .u8 0, .string ⟨#[]⟩, .string ⟨#[]⟩, .string ⟨#[]⟩, .int .i64 0, .string ⟨#[]⟩, .slice none 0 0, .slice none 0 0, .slice none 0 0, .slice none 0 0] 120) := ⟨_, rfl⟩
 obtain ⟨w2, hw2⟩ : ∃ w2 : World, w2 = w1.alloc (Yd encUI idV (Zeo (.pointer (some ⟨kb, 0, none⟩)))) := ⟨_, rfl⟩
 have hb1 : w1.heap[kb]? = some (.cells #[.pointer (some ⟨m, 0, none⟩), .int .i64 0, .int .i64 0, .int .i64 0, .int .u8 0, .string ⟨#[]⟩, .string ⟨#[]⟩, .string ⟨#[]⟩, .int .i64 0, .string ⟨#[]⟩, .slice none 0 0, .slice none 0 0, .slice none 0 0, .slice none 0 0] 120 (0, 0)) := by rw [hw1, hkb]; exact World.alloc_heap_new w _
 have hg1 : w.grownBy w1 none := by rw [hw1]; exact World.grownBy_alloc _ _ _
 have hg12 : w1.grownBy w2 none := by rw [hw2]; exact World.grownBy_alloc _ _ _
 have hg2 := Zc hg1 hg12;have hs1 : w1.heap.size = w.heap.size + 1 := by rw [hw1]; simp
 have hs2 : w2.heap.size = w.heap.size + 2 := by rw [hw2]; simp [hs1]
 have hbt : w2.heap[w1.heap.size]? = some (Yd encUI idV (Zeo (.pointer (some ⟨kb, 0, none⟩)))) := by rw [hw2]; exact World.alloc_heap_new w1 _
 have hb2 := (hg12.block kb (Ze hb1) (by simp)).trans hb1;have hpt := Zct (h.grown hg2);have hmm : ∀ w : World, (Instr.makeMap 121 none).run Tryz.prog w = .ok (.map (some w.heap.size)) (w.alloc (Yd encUI idV [])) := @run_makeMap Tryz.prog 121;have Hw1 := hid hw1;have Hw2 := hid hw2;have Hg2 := hid hg2;have Hb2 := hid hb2;have Hbt := hid hbt;have HM := hid h;have HN := hid hN;have Hss := hid (And.intro hkb (And.intro hs1 hs2));clear hw1 hw2 hg1 hg12 hg2 hb1 hb2 hbt h hN hs1 hs2 hkb;go_enter Tryz.func49, Tryz.ntmps49;go_upto_region 2 with (fail)
 rw [← Hss.out.1, ← Hw1.out];go_upto_region 3 with (refine Vh rfl _ _ _ _ rfl (Zfd Tryz.underlying35) Tryz.underlying121 _ _ rfl rfl _ _ rfl rfl ?_)
 have hW : ∀ o, o = Yd encUI idV (Zeo (.pointer (some ⟨kb, 0, none⟩))) → w1.alloc o = w2 := fun o e => by rw [e]; exact Hw2.out.symm
 rw [hW _ ?tab]
 case tab => rfl
 clear hW hmm;go_wp2_with (go_at_call 15; refine hpt.mono ?_; rintro e w3 ⟨hb3, A3, c3, rfl, hp1, hp2, hp3⟩);obtain ⟨tb, htb⟩ : ∃ tb, tb = w1.heap.size := ⟨_, rfl⟩
 rw [← htb];have hg3 := Zj hb3;have hs3 := hg3.size
 have HPt := hid (show ∀ i q, (Zg p p.length).pl[i]? = some q → ∃ g, A3 = some ⟨g, 0, none⟩ ∧ w2.heap.size ≤ g ∧ g < w3.heap.size ∧ ptR w3 w2.heap.size g (i * 3) q from fun i q hq => by
                      rcases hp3 with ⟨_, h0, _⟩ | ⟨g, cur, e, hgl, hgb, hgr⟩
                      ·rw [h0] at hq; simp at hq
                      ·exact ⟨g, e, hgl, Ze hgb, hgr i q hq⟩)
 have hgw := Zc Hg2.out hg3
 have HCw := hid (show ∀ W' : World, Chg (MkQ kb (.slice none 0 0) (.slice none 0 0)) w3 W' → Chg (fun n => n = kb) w W' from fun W' hc => (Chg.grown (Q := fun n => n = kb) hgw (fun r e => by cases e)).trans hc (fun n _ e => by
                                                                                                                                                                                                                        rcases e with e | e | e
                                                                                                                                                                                                                        ·exact e
                                                                                                                                                                                                                        ·simp [Value.ownBlock] at e
                                                                                                                                                                                                                        ·simp [Value.ownBlock] at e))
 have hb3k := (hg3.block kb (Ze Hb2.out) (by simp)).trans Hb2.out;have Hbt3 := hid ((hg3.block _ (Ze Hbt.out) (by simp)).trans Hbt.out);rw [← htb] at Hbt3
 have HS3 := hid (show MkS w3 w3.heap.size kb m (0, 0, 0) ins0 (.slice none 0 0) (.slice none 0 0) (.slice none 0 0) (.slice none 0 0) w3 (.slice none 0 0) (.slice none 0 0) (Yq p ((pts p).take 0)) [] from
                      ⟨hb3k, World.ownsRow_nil _ _ _ _, World.ownsRow_nil _ _ _ _, .inl rfl, (fun _ h => by cases h), Chg.refl _ _, (fun g e => by simp [Value.ownBlock] at e), (fun g e => by simp [Value.ownBlock] at e)⟩)
 have hpl : (Zg p p.length).pl.length = (pts p).length := by rw [Q6, List.length_map]
 have hl2 := (HN.out.lens (Nat.le_refl p.length) (SLe.refl _)).2.1;have hk3 : kb < w3.heap.size := by have := Hss.out; omega
 have Hsz := hid (show kb = w.heap.size ∧ tb = w.heap.size + 1 ∧ w2.heap.size = w.heap.size + 2 from ⟨Hss.out.1, by rw [htb]; exact Hss.out.2.1, Hss.out.2.2⟩);have Hgw := hid hgw;have Hpl := hid hpl;clear hp3 hb3 hg3 hgw hb3k Hb2 Hbt Hw1 Hw2 hpt htb Hg2 Hss hpl;go_loopw [38] (fun s38 wr => ∃ i : Nat, i ≤ (Zg p p.length).pl.length ∧ s38 = .int .i64 i ∧ ∃ vL vD D pt z va vl, Hid (MkS w3 w3.heap.size kb m pt z va vl (.slice none 0 0) (.slice none 0 0) wr vL vD (Yq p ((pts p).take i)) D) ∧ Hid (D.map dkey = Z7 p ((pts p).take i))) (fun s38 _ => (Zg p p.length).pl.length - (intOf s38).toNat)
 case atStart => exact ⟨0, Nat.zero_le _, rfl, _, _, _, _, _, _, _, HS3.out, by simp [Z7, Hid]⟩
 case round =>
  obtain ⟨i, hi, rfl, vL, vD, D, pt0, z0, va0, vl0, hS, hD⟩ := hrel
  by_cases hil : i < (Zg p p.length).pl.length
  ·obtain ⟨q, hq⟩ : ∃ q, (Zg p p.length).pl[i]? = some q := ⟨_, List.getElem?_eq_getElem hil⟩
   obtain ⟨f, y, z, q3, q4, q5, q6⟩ := Znz hq;obtain ⟨pf, pb, pi⟩ := q;obtain ⟨g, rfl, hg1, hg2, l0, l1, l2⟩ := HPt.out i _ hq
   have hgr : wr.heap[g]? = w3.heap[g]? := hS.out.chg.block g hg2 (fun e => by
                                                                   have := Hsz.out
                                                                   rcases e with e | e | e
                                                                   ·omega
                                                                   ·simp [Value.ownBlock] at e
                                                                   ·simp [Value.ownBlock] at e)
   have l0' : wr.cell? ⟨g, i * 3, none⟩ = some (.int .i64 pf) := (World.cell?_of_block hgr).trans l0;have l1' : wr.cell? ⟨g, i * 3 + 1, none⟩ = some (.int .i64 pb) := (World.cell?_of_block hgr).trans l1;have l2' : wr.cell? ⟨g, i * 3 + 2, none⟩ = some (.int .i64 pi) := (World.cell?_of_block hgr).trans l2;obtain ⟨wA, hwA⟩ : ∃ wA, wA = wr.alloc (.cells #[.int .i64 pf, .int .i64 pb, .int .i64 pi] 42) := ⟨_, rfl⟩
   obtain ⟨b7, hb7⟩ : ∃ b7, b7 = wr.heap.size := ⟨_, rfl⟩
   have hbA : wA.heap[b7]? = some (.cells #[.int .i64 pf, .int .i64 pb, .int .i64 pi] 42 (0, 0)) := by rw [hwA, hb7]; exact World.alloc_heap_new _ _
   have hgA : wr.grownBy wA none := by rw [hwA]; exact World.grownBy_alloc _ _ _
   have hSA := hS.out.grow hgA;have hkr := Ze hS.out.blk;have hnb : b7 ≠ kb := by omega
   have hnk : kb ≠ b7 := by omega
   obtain ⟨kA, fA⟩ := Za hSA.blk;have ka1 : wA.cell? ⟨kb, 1, none⟩ = some (.int .i64 pt0.1) := kA 1;have ka2 : wA.cell? ⟨kb, 2, none⟩ = some (.int .i64 pt0.2.1) := kA 2;have ka3 : wA.cell? ⟨kb, 3, none⟩ = some (.int .i64 pt0.2.2) := kA 3;have fa1 := fA 1;have fa2 := fA 2;have fa3 := fA 3;obtain ⟨kB, -⟩ := Za hbA;have kb0 := kB 0;have kb1 := kB 1;have kb2 := kB 2;clear kA fA kB hgr l0 l1 l2 hq;go_upto_region 6 with (fail)
   rw [← hwA, ← hb7];clear hwA hb7;go_upto_region 7 with (fail)
   obtain ⟨wB, hwB⟩ : ∃ wB, wB = ((wA.setCell ⟨kb, 1, none⟩ (.int .i64 pf)).setCell ⟨kb, 2, none⟩ (.int .i64 pb)).setCell ⟨kb, 3, none⟩ (.int .i64 pi) := ⟨_, rfl⟩
   rw [← hwB];have hcB : Chg (fun n => n = kb) wA wB := by rw [hwB]; exact Yu (Yu (Yu (Chg.refl _ _) 1 _) 2 _) 3 _
   have hbB : wB.heap[kb]? = some (.cells #[.pointer (some ⟨m, 0, none⟩), .int .i64 pf, .int .i64 pb, .int .i64 pi, .int .u8 z0.op, .string ⟨z0.dst.toArray⟩, .string ⟨z0.a.toArray⟩, .string ⟨z0.b.toArray⟩, .int .i64 z0.n, .string ⟨z0.fn.toArray⟩, va0, vl0, vL, vD] 120 (0, 0)) := by rw [hwB]; exact Zs (Zs (Zs hSA.blk 1 _) 2 _) 3 _
   have SB : MkS w3 w3.heap.size kb m (pf, pb, pi) z0 va0 vl0 (.slice none 0 0) (.slice none 0 0) wB vL vD (Yq p ((pts p).take i)) D := hS.out.next hk3 hbB ((Chg.grown (Q := fun n => n = kb) hgA (fun r e => by cases e)).trans hcB (fun _ _ e => e));have hb7B := hcB.at_ hbA hnb;have hins := Zfk (HM.out.chg (HCw.out wB SB.chg) (fun n _ hn e => by have := Hsz.out; omega)) q4 q5 q6;obtain ⟨kB, -⟩ := Za hb7B;have kc0 := kB 0;have kc1 := kB 1;have kc2 := kB 2;simp only [insV] at hins;have HSB := hid SB;have HbB := hid hbB;have Hq3 := hid q3;clear hwB hcB hSA ka1 ka2 ka3 fa1 fa2 fa3 kb0 kb1 kb2 kB SB hbB hb7B hgA q3 q4 q5 q6 l0' l1' l2';go_upto_region 8 with (go_at_call 17; refine hins.mono ?_; rintro e w7 ⟨A7, d7, A8, d8, rfl, hI7, hg7⟩; have hb77 := (hg7.block kb (Ze HbB.out) (by simp)).trans HbB.out; obtain ⟨kx, fx⟩ := Za hb77; have x4' : w7.cell? ⟨kb, 4, none⟩ = some (.int .u8 z0.op) := kx 4; have x5 : w7.cell? ⟨kb, 5, none⟩ = some (.string ⟨z0.dst.toArray⟩) := kx 5; have x6 : w7.cell? ⟨kb, 6, none⟩ = some (.string ⟨z0.a.toArray⟩) := kx 6; have x7 : w7.cell? ⟨kb, 7, none⟩ = some (.string ⟨z0.b.toArray⟩) := kx 7; have x8 : w7.cell? ⟨kb, 8, none⟩ = some (.int .i64 z0.n) := kx 8; have x9 : w7.cell? ⟨kb, 9, none⟩ = some (.string ⟨z0.fn.toArray⟩) := kx 9; have x10 : w7.cell? ⟨kb, 10, none⟩ = some (va0) := kx 10; have x11 : w7.cell? ⟨kb, 11, none⟩ = some (vl0) := kx 11; have f4 := fx 4; have f5 := fx 5; have f6 := fx 6; have f7 := fx 7; have f8 := fx 8; have f9 := fx 9; have f10 := fx 10; have f11 := fx 11; clear kx fx)
   obtain ⟨wC, hwC⟩ : ∃ wC, wC = (((((((w7.setCell ⟨kb, 4, none⟩ (.int .u8 z.op)).setCell ⟨kb, 5, none⟩ (.string ⟨z.dst.toArray⟩)).setCell ⟨kb, 6, none⟩ (.string ⟨z.a.toArray⟩)).setCell ⟨kb, 7, none⟩ (.string ⟨z.b.toArray⟩)).setCell ⟨kb, 8, none⟩ (.int .i64 z.n)).setCell ⟨kb, 9, none⟩ (.string ⟨z.fn.toArray⟩)).setCell ⟨kb, 10, none⟩ (.slice A7 z.args.length d7)).setCell ⟨kb, 11, none⟩ (.slice A8 z.labels.length d8) := ⟨_, rfl⟩
   rw [← hwC];have hcC : Chg (fun n => n = kb) w7 wC := by rw [hwC]; exact Yu (Yu (Yu (Yu (Yu (Yu (Yu (Yu (Chg.refl _ _) 4 _) 5 _) 6 _) 7 _) 8 _) 9 _) 10 _) 11 _
   have hbC : wC.heap[kb]? = some (.cells #[.pointer (some ⟨m, 0, none⟩), .int .i64 pf, .int .i64 pb, .int .i64 pi, .int .u8 z.op, .string ⟨z.dst.toArray⟩, .string ⟨z.a.toArray⟩, .string ⟨z.b.toArray⟩, .int .i64 z.n, .string ⟨z.fn.toArray⟩, .slice A7 z.args.length d7, .slice A8 z.labels.length d8, vL, vD] 120 (0, 0)) := by rw [hwC]; exact set14 hb77 _ _ _ _ _ _ _ _
   have SC : MkS w3 w3.heap.size kb m (pf, pb, pi) z (.slice A7 z.args.length d7) (.slice A8 z.labels.length d8) (.slice none 0 0) (.slice none 0 0) wC vL vD (Yq p ((pts p).take i)) D := HSB.out.next hk3 hbC ((Chg.grown (Q := fun n => n = kb) hg7 (fun r e => by cases e)).trans hcC (fun _ _ e => e));have hs7 := hg7.size;have hown : ∀ n, MkQ kb vL vD n → n < wB.heap.size := fun n e => by
    rcases e with e | e | e
    ·rw [e]; exact Ze HSB.out.blk
    ·exact (HSB.out.ol.lt n e).2
    ·exact (HSB.out.od.lt n e).2
   have e8m : ∀ W', Chg (MkQ kb vL vD) wC W' → MapL lo W' m p := fun W' hc => HM.out.chg (HCw.out W' (SC.join hc)) (fun n _ hn e => by have := Hsz.out; omega)
   have e8i : ∀ W', Chg (MkQ kb vL vD) wC W' → InsAt W' w7.heap.size z (.slice A7 z.args.length d7) (.slice A8 z.labels.length d8) := fun W' hc => hI7 W' w7.heap.size (fun n h1 h2 => ⟨h2, (hc.block n (Nat.lt_of_lt_of_le h2 hcC.size) (fun e => by have := hown n e; omega)).trans (hcC.block n h2 (fun e => by have := hown n (.inl e); omega))⟩)
   have E8 : MkE wC w3.heap.size kb lo w7.heap.size m p (pf, pb, pi) z (.slice A7 z.args.length d7) (.slice A8 z.labels.length d8) vL vD := ⟨e8m, e8i, hk3, SC.chg.size, hcC.size⟩
   have hbtC : wC.heap[tb]? = some (Yd encUI idV (Zeo (.pointer (some ⟨kb, 0, none⟩)))) := SC.chg.at_ Hbt3.out (fun e => by
                                                                                                                    have := Hsz.out
                                                                                                                    rcases e with e | e | e
                                                                                                                    ·omega
                                                                                                                    ·simp [Value.ownBlock] at e
                                                                                                                    ·simp [Value.ownBlock] at e)
   have hrun := Vb (P := Tryz.prog) (w := wC) (ev := idV) (Zfd Tryz.underlying35) Tryz.underlying121 hbtC (z.op : Int) (z := .nilFunc) (by kernel_rfl);have x4 : wC.cell? ⟨kb, 4, none⟩ = some (.int .u8 z.op) := SC.cell (World.grownBy.refl _ _) 4;obtain ⟨hp1, hp2⟩ := Zfr Hq3.out;have hDl : D.length = (Z7 p ((pts p).take i)).length := by have := congrArg List.length hD.out; rwa [List.length_map] at this
   rw [← hDl] at hp1;have hRl : (Yq p ((pts p).take i)).length ≤ 21000000 := by have := Zfu HN.out hs (l := (pts p).take i) (fun q hq => List.mem_of_mem_take hq) (by rw [List.length_take]; have := HN.out.codes; omega); omega
   have hDl2 : D.length ≤ 5000 := by have := Qt p ((pts p).take i); rw [List.length_take] at this; have := HN.out.codes; omega
   have Hp := hid (And.intro hp1 hp2);have HSC := hid SC;simp only [encUI] at hrun;clear e8m e8i hwC hcC hbC hb77 hown hbtC x5 x6 x7 x8 x9 x10 x11 f4 f5 f6 f7 f8 f9 f10 f11 hins hI7 hg7 hp1 hp2 hDl kc0 kc1 kc2
   cases hdo : Zkm z.op with
   | true =>
    have hcall := do_any E8 SC.re hs hRl hDl2 (List.mem_of_getElem? Hq3.out) hdo;have eg := Zpk hdo;rw [aget_do _ hdo] at hrun;simp only [idV, Option.isSome_some] at hrun;obtain ⟨M, hM⟩ : ∃ M, M = Zks z.op := ⟨_, rfl⟩
    rw [← hM] at hcall eg hrun;clear hM SC E8 hRl hDl2;go_upto_region 10 with (fail)
    repeat go_step
    refine hcall.mono ?_;rintro e w9 ⟨rfl, vL', vD', D', h9, hD'⟩;have H9 := hid (HSC.out.back h9);have HD' := hid hD';clear h9 hD' eg hrun hcall x4 x4';dsimp only;go_wp2;go_roundw
    case rel => exact ⟨i + 1, by omega, by go_num, vL', vD', D', _, _, _, _, hid (by rw [Hp.out.1]; exact H9.out), hid (by rw [HD'.out, hD.out, Hp.out.2])⟩
    case measure => simp [intOf]; omega
   | false =>
    obtain ⟨hn1, hn2⟩ := Znc (p := p) (nd := D.length) (q := ((pf, pb, pi), z)) hdo;rw [hn1, hn2, List.append_nil, List.append_nil] at Hp;rw [Zre _ hdo] at hrun;simp only [Option.isSome_none] at hrun;clear hn1 hn2 E8 SC hRl hDl2;go_wp2;go_roundw
    case rel => exact ⟨i + 1, by omega, by go_num, vL, vD, D, _, _, _, _, hid (by rw [Hp.out.1]; exact HSC.out), hid (by rw [hD.out, Hp.out.2])⟩
    case measure => simp [intOf]; omega
  ·obtain rfl : i = (Zg p p.length).pl.length := by omega
   rw [Hpl.out, List.take_length] at hS hD;have t12 : wr.cell? ⟨kb, 12, none⟩ = some vL := hS.out.cell (World.grownBy.refl _ _) 12;have t13 : wr.cell? ⟨kb, 13, none⟩ = some vD := hS.out.cell (World.grownBy.refl _ _) 13;obtain ⟨AL, cL, rfl, -, -, -, -⟩ := Zr hS.out.ol;obtain ⟨AD, cD, rfl, -, -, -, -⟩ := Zr hS.out.od;have hgf : w.grownBy wr none := (HCw.out wr hS.out.chg).all (fun n hn e => by have := Hsz.out; omega);have Hgf := hid hgf;have hsz3 : w.heap.size ≤ w3.heap.size := by have := Hsz.out; omega
   clear hgf hil;go_upto_region 12 with (fail)
   go_quiet (fail);go_wp2;go_ret2;refine ⟨_, _, D, rfl, ?_, ?_, ?_, hD.out, Zi Hgf.out _⟩
   ·exact Qi (hS.out.grow (Zi (World.grownBy.refl wr none) _)).ol hsz3
   ·exact Qi (hS.out.grow (Zi (World.grownBy.refl wr none) _)).od hsz3
   ·exact fun d hd => Qi ((hS.out.grow (Zi (World.grownBy.refl wr none) _)).ar d hd).1 hsz3
end Go.Proofs.YtiheiaaifdjpeaaGreat
namespace Go.Proofs.YtiheiaaifdjpeaaGreat
open Lib(hid)
theorem K6 (p : GProg) (f : Nat) (s : Str) (h : 0 ≤ vN p f s) : vN p f s < (Zg p p.length).vars.length := by
 unfold vN Zam at h ⊢
 split at h
 ·rename_i h1
  rw [if_pos h1]
  split at h
  ·simp at h
  ·rename_i h2
   rw [if_neg h2]
   split at h
   ·rename_i h3
    rw [if_pos h3];have := List.idxOf_lt_length_iff.2 (List.contains_iff_mem.1 h3);simp only;unfold ixK;rw [if_pos (show (Zg p p.length).vars.contains ((f : Int).toNat, s) = true from h3)];omega
   ·simp at h
 ·simp at h
theorem Uj {r r0 : GRel} {l : List Int} (h : r ∈ V5 r0 l) : r = r0 ∧ ∀ x ∈ l, 0 ≤ x := by
 unfold V5 at h
 split at h
 ·rename_i h1
  exact ⟨by simpa using h, fun x hx => by simpa using List.all_eq_true.1 h1 x hx⟩
 ·cases h
theorem Ua {r : GRel} {a b : Int} (h : r ∈ Xd a b) : r = ⟨2, a, b, 0⟩ ∧ 0 ≤ a ∧ 0 ≤ b := by
 obtain ⟨h1, h2⟩ := Uj h;exact ⟨h1, h2 a (by simp), h2 b (by simp)⟩
theorem NOk.dst_ne {p : GProg} (h : NOk p) {i b k : Nat} {f : GFun} {y : GBlk} {x : GIns} (hf : p[i]? = some f) (hy : f.blocks[b]? = some y) (hx : y.code[k]? = some x) (ho : x.op = 1 ∨ x.op = 2 ∨ x.op = 3 ∨ x.op = 4 ∨ x.op = 5 ∨ x.op = 6 ∨ x.op = 7 ∨ x.op = 8) : x.dst ≠ [] := by
 have h1 := h.ins hf hy hx;intro e;unfold Zm Yy at h1
 rcases ho with ho | ho | ho | ho | ho | ho | ho | ho <;> rw [ho] at h1 <;> simp [Yw, e, Yf] at h1
structure RelOk (p : GProg) (nd : Nat) (r : GRel) : Prop where
 a0 : 0 ≤ r.a
 a1 : r.a < (Zg p p.length).vars.length
 k0 : 1 ≤ r.kind ∧ r.kind ≤ 6
 base : r.kind = 1 → ∃ o : Nat, r.b = o ∧ ((∃ (j : Nat) (x : GPt × Nat × Nat), (Zg p p.length).of[o]? = some j ∧ (Zg p p.length).sites[j]? = some x ∧ x.2.1 = o) ∨ ∃ f, f < p.length ∧ o = (Zg p p.length).of.length + f)
 call : r.kind = 6 → 0 ≤ r.k ∧ r.k < nd ∧ r.b = 0
 rest : r.kind ≠ 1 → r.kind ≠ 6 → 0 ≤ r.b ∧ r.b < (Zg p p.length).vars.length ∧ (r.kind ≠ 5 → r.k = 0)
theorem Kw {p : GProg} {nd : Nat} {a b : Int} (h0 : 0 ≤ a) (h1 : a < (Zg p p.length).vars.length) (h2 : 0 ≤ b) (h3 : b < (Zg p p.length).vars.length) : RelOk p nd ⟨2, a, b, 0⟩ :=
 ⟨h0, h1, by simp, fun e => by simp at e, fun e => by simp at e, fun _ _ => ⟨h2, h3, fun _ => rfl⟩⟩
theorem rel_ok {p : GProg} (h : NOk p) (nd : Nat) {q : GPt × GIns} (hq : q ∈ pts p) {r : GRel} (hr : r ∈ Y7 p nd q) : RelOk p (nd + (Y4 p q).length) r := by
 obtain ⟨f, y, hf, hy, hx⟩ := Xn (show (q.1, q.2) ∈ pts p from hq);have hd := fun ho => (Zof h hf hy hx).resolve_right (fun e => h.dst_ne hf hy hx ho e.1)
 unfold Y7 at hr
 split at hr
 ·rename_i ho
  obtain ⟨rfl, -⟩ := Uj hr;obtain ⟨-, d1, d2⟩ := hd (by omega);refine ⟨d1, d2, by simp, fun _ => ⟨_, rfl, .inl ?_⟩, fun e => by simp at e, fun e => absurd rfl e⟩;have hs : Xb q.2 = true := by simp only [Xb, Bool.or_eq_true, beq_iff_eq]; exact ho
  obtain ⟨-, h3, -, -, -⟩ := Zrx h hf hy hx rfl rfl;obtain ⟨g1, g2, -⟩ := h3 hs;have hn := h.site (Js hf hy hx) hs;have hof := (Qo p (Nat.le_refl _)).bs _ _ g2 0 (by simp only; omega);have e : J8 p q.1 = ((stAt p q.1.1 f (Xo [f] 0 f.blocks q.1.2.1 y.code q.1.2.2)).of.length, q.2.n.toNat, true) := by
   unfold J8;rw [show Ys (Zg p p.length).at_ q.1 = _ from g1];simp [g2]
  rw [e];exact ⟨_, _, by simpa using hof, g2, rfl⟩
 split at hr
 ·rename_i _ ho
  obtain ⟨rfl, -⟩ := Uj hr;obtain ⟨-, d1, d2⟩ := hd (by omega);refine ⟨d1, d2, by simp, fun _ => ⟨_, rfl, .inr ⟨ixK (Zv p p.length) q.2.fn, ?_, rfl⟩⟩, fun e => by simp at e, fun e => absurd rfl e⟩;have h1 := h.funcs;have h2 := Ux p (Nat.le_refl p.length);unfold ixK
  split
  ·rename_i hc
   have := List.idxOf_lt_length_iff.2 (List.contains_iff_mem.1 hc);omega
  ·omega
 split at hr
 ·obtain ⟨rfl, h1, h2⟩ := Ua hr;exact Kw h1 (K6 _ _ _ h1) h2 (K6 _ _ _ h2)
 split at hr
 ·obtain ⟨s, -, hr⟩ := List.mem_flatMap.1 hr;obtain ⟨rfl, h1, h2⟩ := Ua hr;exact Kw h1 (K6 _ _ _ h1) h2 (K6 _ _ _ h2)
 split at hr
 ·rename_i _ _ _ _ ho
  obtain ⟨rfl, h1⟩ := Uj hr;obtain ⟨-, d1, d2⟩ := hd (by omega);have h2 := h1 _ (List.mem_singleton.2 rfl);exact ⟨d1, d2, by simp, fun e => by simp at e, fun e => by simp at e, fun _ _ => ⟨h2, K6 _ _ _ h2, fun e => absurd rfl e⟩⟩
 split at hr
 ·rename_i _ _ _ _ _ ho
  obtain ⟨rfl, h1⟩ := Uj hr;obtain ⟨-, d1, d2⟩ := hd (by omega);have h2 := h1 _ (List.mem_singleton.2 rfl);exact ⟨d1, d2, by simp, fun e => by simp at e, fun e => by simp at e, fun _ _ => ⟨h2, K6 _ _ _ h2, fun _ => rfl⟩⟩
 split at hr
 ·obtain ⟨rfl, h1⟩ := Uj hr;have h2 := h1 (vN p q.1.1 q.2.a) (by simp);have h3 := h1 (vN p q.1.1 q.2.b) (by simp);exact ⟨h3, K6 _ _ _ h3, by simp, fun e => by simp at e, fun e => by simp at e, fun _ _ => ⟨h2, K6 _ _ _ h2, fun _ => rfl⟩⟩
 split at hr
 ·rename_i ho
  obtain ⟨g, hg, ha⟩ := Zac h hf hy hx ho;rw [hg] at hr;simp only [Kv, List.mem_append, List.mem_flatMap] at hr
  rcases hr with ⟨t, ht, hr⟩ | ⟨t, ht, hr⟩
  ·obtain ⟨rfl, h1, h2⟩ := Ua hr;refine Kw h1 ?_ h2 (K6 _ _ _ h2);have h3 := (List.of_mem_zip ht).1;obtain ⟨s, hs, e⟩ := List.mem_map.1 h3;obtain ⟨j, hj, e2⟩ := List.mem_iff_getElem.1 hs;have := List.idxOf_lt_length_iff.2 ((Zsu h hg (show j ≤ g.params.length by omega)).2 s (by rw [← e2]; exact List.getElem?_eq_getElem hj)).2;omega
  ·obtain ⟨rfl, h1, h2⟩ := Ua hr;refine Kw h1 (K6 _ _ _ h1) h2 ?_;unfold Xv at ht;obtain ⟨z, -, rfl⟩ := List.mem_map.1 ht;exact K6 p _ z.2.a h2
 split at hr
 ·rename_i ho
  obtain ⟨rfl, h1⟩ := Uj hr;have h2 := h1 _ (List.mem_singleton.2 rfl);refine ⟨h2, K6 _ _ _ h2, by simp, fun e => by simp at e, fun _ => ⟨by simp, ?_, rfl⟩, fun _ e => absurd rfl e⟩;simp only [Y4, if_pos ho, List.length_singleton];omega
 ·cases hr
theorem RelOk.mono {p : GProg} {n n' : Nat} {r : GRel} (h : RelOk p n r) (hn : n ≤ n') : RelOk p n' r := ⟨h.a0, h.a1, h.k0, h.base, fun e => ⟨(h.call e).1, by have := (h.call e).2.1; omega, (h.call e).2.2⟩, h.rest⟩
theorem Zoq {p : GProg} (h : NOk p) : ∀ (l : List (GPt × GIns)) (nd : Nat), (∀ q ∈ l, q ∈ pts p) → ∀ r ∈ V2 p nd l, RelOk p (nd + (Z7 p l).length) r
 | [], _, _, r, hr => by simp [V2] at hr
 | q :: l, nd, hl, r, hr => by
  have e : (Z7 p (q :: l)).length = (Y4 p q).length + (Z7 p l).length := by simp [Z7]
  simp only [V2, List.mem_append] at hr
  rcases hr with hr | hr
  ·exact (rel_ok h nd (hl q (by simp)) hr).mono (by omega)
  ·exact (Zoq h l _ (fun q hq => hl q (by simp [hq])) r hr).mono (by omega)
def Xm (k : Nat) (R : List GRel) : Nat := (R.filter fun r => r.kind == k).length
theorem Jb (k : Nat) (R S : List GRel) : Xm k (R ++ S) = Xm k R + Xm k S := by simp [Xm, List.filter_append]
theorem Zob (k : Nat) (R : List GRel) : Xm k R ≤ R.length := List.length_filter_le _ _
end Go.Proofs.YtiheiaaifdjpeaaGreat

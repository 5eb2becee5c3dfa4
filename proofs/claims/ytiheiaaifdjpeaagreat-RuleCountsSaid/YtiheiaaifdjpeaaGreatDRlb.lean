/- The maker's methods phi and call. Condition: the maker lies in memory. -/
import Derived.Test.YtiheiaaifdjpeaaGreatDRla
import Derived.Test.YtiheiaaifdjpeaaGreatDKn
set_option linter.unusedVariables false
set_option linter.unusedSimpArgs false
set_option linter.unusedSectionVars false
set_option maxHeartbeats 8000000
set_option maxRecDepth 100000
namespace Go.Proofs.YtiheiaaifdjpeaaGreat
open Lib(hid)
open Go.RowKit Go.Shelf
variable {wE : World} {base kb lo Bi m : Nat} {p : GProg} {pt : GPt} {z : GIns} {va vl vL0 vD0 : Value} {W W' : World} {vL vD v' : Value} {R : List GRel} {D : List GDial}
theorem Ziv {α β : Type} (f : α → List β) {l : List α} {i : Nat} {x : α} (h : l[i]? = some x) : (l.take (i + 1)).flatMap f = (l.take i).flatMap f ++ f x := by
 rw [List.take_add_one, h];simp
theorem U5 (a b : Int) : (Xd a b).length ≤ 1 := by
 unfold Xd V5
 split <;> simp
theorem Zag {α β : Type} (f : α → List β) (hf : ∀ x, (f x).length ≤ 1) : ∀ l : List α, (l.flatMap f).length ≤ l.length
 | [] => by simp
 | x :: l => by
  have h1 := hf x;have h2 := Zag f hf l;rw [List.flatMap_cons, List.length_append, List.length_cons];omega
theorem Ztd (E : MkE wE base kb lo Bi m p pt z va vl vL0 vD0) (S : MkS wE base kb m pt z va vl vL0 vD0 W vL vD R D) (hR : R.length + z.args.length ≤ 30000000) :
  Calls Tryz.prog 74 #[.pointer (some ⟨kb, 0, none⟩)] W (MkOut wE base kb m pt z va vl vL0 vD0 vD R D (z.args.flatMap fun s => Xd (vN p pt.1 z.dst) (vN p pt.1 s))) := by
 have hok := (S.map E (World.grownBy.refl W none)).ok;obtain ⟨A7, d7, hva, l1, l2, l3, hA⟩ := (S.ins E (World.grownBy.refl W none)).args.open_;subst hva;have c10 : W.cell? ⟨kb, 10, none⟩ = some (.slice A7 z.args.length d7) := S.cell (World.grownBy.refl W none) 10;have HS0 := hid S;have HE := hid E;have Hok := hid hok;clear S E hA hok;go_enter Tryz.func74, Tryz.ntmps74;go_wp2_with fail;clear c10;go_loopw [10] (fun s10 wr => ∃ i : Nat, i ≤ z.args.length ∧ s10 = .int .i64 i ∧ ∃ vL', Hid (MkS wE base kb m pt z (.slice A7 z.args.length d7) vl vL0 vD0 wr vL' vD (R ++ (z.args.take i).flatMap fun s => Xd (vN p pt.1 z.dst) (vN p pt.1 s)) D)) (fun s10 _ => z.args.length - (intOf s10).toNat)
 case atStart => exact ⟨0, Nat.zero_le _, rfl, vL, hid (by simpa using HS0.out)⟩
 case round =>
  obtain ⟨i, hi, rfl, vL', hS⟩ := hrel
  by_cases hil : i < z.args.length
  ·obtain ⟨s, g, off, hs, rfl, hgl, hsc, -⟩ := ((hS.out.ins HE.out (World.grownBy.refl wr none)).args).at_ hil;rw [Nat.mul_one] at hsc;have hlen : (R ++ (z.args.take i).flatMap fun s => Xd (vN p pt.1 z.dst) (vN p pt.1 s)).length ≤ 30000000 := by
    have := Zag (fun s => Xd (vN p pt.1 z.dst) (vN p pt.1 s)) (fun _ => U5 _ _) (z.args.take i);rw [List.length_take] at this;rw [List.length_append];omega
   have c5 : wr.cell? ⟨kb, 5, none⟩ = some (.string ⟨z.dst.toArray⟩) := hS.out.cell (World.grownBy.refl wr none) 5;have Hv := hid (fun (W' : World) (hg : wr.grownBy W' none) (s : Str) => Ur HE.out (hS.out.grow hg) s);have Hp := hid (fun (W' : World) (hg : wr.grownBy W' none) => Q4 HE.out (hS.out.grow hg) (Us Hok.out pt.1 z.dst) (Us Hok.out pt.1 s) hlen);have Hm := hid (Ziv (fun s => Xd (vN p pt.1 z.dst) (vN p pt.1 s)) hs);have hg := World.grownBy.refl wr none;clear hs hlen;go_wp2_with (first | (go_at_call 94; refine (Hv.out _ hg _).mono ?_; rintro e w1 ⟨rfl, hg1⟩; have hg := Zc hg hg1; clear hg1) | (go_at_call 95; refine (Hp.out _ hg).mono ?_; rintro e w2 ⟨rfl, vL2, h2⟩));go_roundw
   case rel => exact ⟨i + 1, by omega, by go_num, vL2, by rw [Hm.out, ← List.append_assoc]; exact h2⟩
   case measure => simp [intOf]; omega
  ·obtain rfl : i = z.args.length := by omega
   rw [List.take_length] at hS;go_wp2;go_end0;exact ⟨rfl, vL', hS.out⟩
def Kv (p : GProg) (i : Nat) (z : GIns) (fi : Nat) (x : GFun) : List GRel :=
 (((x.params.map fun s => (Zg p p.length).vars.idxOf (fi, s)).zip z.args).flatMap fun q => Xd ((q.1 : Nat) : Int) (vN p i q.2)) ++ (Xv p fi (pts [x])).flatMap fun r => Xd (vN p i z.dst) r
theorem Zqq {p : GProg} (h : NOk p) (f : Nat) (l : List (GPt × GIns)) : ∀ r ∈ Xv p f l, -1 ≤ r ∧ r ≤ 1000000 := fun r hr => by
 unfold Xv at hr;obtain ⟨q, _, rfl⟩ := List.mem_map.1 hr;exact Us h f q.2.a
theorem Zqn (E : MkE wE base kb lo Bi m p pt z va vl vL0 vD0) (S : MkS wE base kb m pt z va vl vL0 vD0 W vL vD R D) {x : GFun} (hx : p[ixK (Zv p p.length) z.fn]? = some x) (hal : x.params.length = z.args.length) (hR : R.length + 10000 ≤ 30000000) :
  Calls Tryz.prog 78 #[.pointer (some ⟨kb, 0, none⟩)] W (MkOut wE base kb m pt z va vl vL0 vD0 vD R D (Kv p pt.1 z (ixK (Zv p p.length) z.fn) x)) := by
 have hok := (S.map E (World.grownBy.refl W none)).ok;obtain ⟨A7, d7, hva, l1, l2, l3, hA⟩ := (S.ins E (World.grownBy.refl W none)).args.open_;subst hva;have hvb := (hok.lens (Nat.le_refl p.length) (SLe.refl _)).1;have hpl := hok.params hx;have hrl := Zcd p (ixK (Zv p p.length) z.fn) (pts [x]);have hr2 := Q1 hok hx;obtain ⟨fi, hfi⟩ : ∃ fi, fi = ixK (Zv p p.length) z.fn := ⟨_, rfl⟩
 rw [← hfi] at hx hrl ⊢;have HSc := hid (show ∀ W' : World, W.grownBy W' none → W'.cell? ⟨kb, 0, none⟩ = some (.pointer (some ⟨m, 0, none⟩)) ∧ W'.cell? ⟨kb, 9, none⟩ = some (.string ⟨z.fn.toArray⟩) from fun W' hg => ⟨S.cell hg 0, S.cell hg 9⟩);have Hf := hid (fun (W' : World) (hg : W.grownBy W' none) => Zhq (S.map E hg) z.fn);rw [← hfi] at Hf;have Hpa := hid (fun (W' : World) (hg : W.grownBy W' none) => Zku (S.map E hg) hx);simp only [List.length_map] at Hpa;have HS0 := hid S;have HE0 := hid E;have Hok := hid hok;have Hx := hid hx;have hg := World.grownBy.refl W none;have Hal := hid hal;clear S E hA hok hx hfi hal;go_enter Tryz.func78, Tryz.ntmps78;go_upto_region 0 with (fail)
 go_region_held3 (fun W' => W'.cell? ⟨kb, 0, none⟩ = some (.pointer (some ⟨m, 0, none⟩)) ∧ W'.cell? ⟨kb, 9, none⟩ = some (.string ⟨z.fn.toArray⟩)) (first | exact HSc.out _ hg | exact HSc.out _ (Zf hg)) ((go_simp; go_at_call 26; refine (Hf.out _ (Zf hg)).mono ?_; rintro e w1 ⟨rfl, hg1⟩; have hg := Zc (Zf hg) hg1; clear hg1));obtain ⟨c0, -⟩ := HSc.out _ hg;go_wp2_with (go_at_call 31; refine (Hpa.out _ hg).mono ?_; rintro e w2 ⟨v2, rfl, ho2, hg2⟩; obtain ⟨A2, c2, rfl, -, -, -, -⟩ := Zr ho2);have hPl : ∀ y ∈ (x.params.map fun s => (Zg p p.length).vars.idxOf (fi, s)), y ≤ 5000 := fun y hy => by
  obtain ⟨s, _, rfl⟩ := List.mem_map.1 hy;have := List.idxOf_le_length (l := (Zg p p.length).vars) (a := (fi, s));omega
 obtain ⟨pl, hpl'⟩ : ∃ pl, pl = (x.params.map fun s => (Zg p p.length).vars.idxOf (fi, s)) := ⟨_, rfl⟩
 have hpn : pl.length = x.params.length := by rw [hpl', List.length_map]
 rw [← hpl'] at ho2 hPl;rw [← hpn] at ho2 hpl ⊢;have Hal' := hid (hpn.trans Hal.out);have S2 := HS0.out.grow (Zc hg hg2);have hq2 : ∀ n, MkQ kb vL vD n → n < w1.heap.size := fun n e => by
  have hS1 := HS0.out.grow hg
  rcases e with e | e | e
  ·rw [e]; exact Ze hS1.blk
  ·exact (hS1.ol.lt n e).2
  ·exact (hS1.od.lt n e).2
 have Hrow := hid (fun (wr : World) (hc : Chg (MkQ kb vL vD) w2 wr) => Zqs (hc.owns ho2 (fun g e q => by have := (ho2.lt g e).1; have := hq2 g q; omega)) (fun y hy => by have := hPl y hy; omega));have HPl := hid hPl;have Hpl' := hid hpl';have HS2 := hid S2.re;have HE2 := hid (HE0.out.re S2);have HS2' := hid S2;have Hlen := hid (And.intro hrl hr2);clear hPl hpl' S2 hpn c0 hq2 ho2 hg hg2 Hpa Hf HSc hrl hr2;go_loopw [28] (fun s28 wr => ∃ i : Nat, i ≤ pl.length ∧ s28 = .int .i64 i ∧ ∃ vL', Hid (MkS w2 base kb m pt z (.slice A7 z.args.length d7) vl vL vD wr vL' vD (R ++ ((pl.zip z.args).take i).flatMap fun q => Xd ((q.1 : Nat) : Int) (vN p pt.1 q.2)) D)) (fun s28 _ => pl.length - (intOf s28).toNat)
 case atStart => exact ⟨0, Nat.zero_le _, rfl, vL, hid (by simpa using HS2.out)⟩
 case round =>
  obtain ⟨i, hi, rfl, vL', hS⟩ := hrel;have hlen : (R ++ ((pl.zip z.args).take i).flatMap fun q => Xd ((q.1 : Nat) : Int) (vN p pt.1 q.2)).length ≤ R.length + 100 := by
   have := Zag (fun q : Nat × Str => Xd ((q.1 : Nat) : Int) (vN p pt.1 q.2)) (fun _ => U5 _ _) ((pl.zip z.args).take i);rw [List.length_take] at this;rw [List.length_append];omega
  by_cases hil : i < pl.length
  ·obtain ⟨y, g2, off2, hy, rfl, hg2l, hyc, -⟩ := (Hrow.out wr hS.out.chg).at_ hil;obtain ⟨s, g, off, hs, rfl, hgl, hsc, -⟩ := ((hS.out.ins HE2.out (World.grownBy.refl wr none)).args).at_ (show i < z.args.length by have := Hal'.out; omega);have hia : i < z.args.length := by have := Hal'.out; omega
   rw [Nat.mul_one] at hsc hyc;have hzip : (pl.zip z.args)[i]? = some (y, s) := by rw [List.getElem?_zip_eq_some]; exact ⟨hy, hs⟩
   have hy5 := HPl.out y (List.mem_of_getElem? hy);have c5 : wr.cell? ⟨kb, 10, none⟩ = some (.slice (some ⟨g, off, none⟩) z.args.length d7) := hS.out.cell (World.grownBy.refl wr none) 10;have Hv := hid (fun (W' : World) (hg : wr.grownBy W' none) (s : Str) => Ur HE2.out (hS.out.grow hg) s);have Hp := hid (fun (W' : World) (hg : wr.grownBy W' none) => Q4 HE2.out (hS.out.grow hg) (a := ((y : Nat) : Int)) (by omega) (Us Hok.out pt.1 s) (by omega));have Hm := hid (Ziv (fun q : Nat × Str => Xd ((q.1 : Nat) : Int) (vN p pt.1 q.2)) hzip);have hg := World.grownBy.refl wr none;clear hs hlen hy hzip hy5;go_wp2_with (first | (go_at_call 94; refine (Hv.out _ hg _).mono ?_; rintro e w3 ⟨rfl, hg1⟩; have hg := Zc hg hg1; clear hg1) | (go_at_call 95; refine (Hp.out _ hg).mono ?_; rintro e w4 ⟨rfl, vL2, h2⟩));go_roundw
   case rel => exact ⟨i + 1, by omega, by go_num, vL2, by rw [Hm.out, ← List.append_assoc]; exact h2⟩
   case measure => simp [intOf]; omega
  ·obtain rfl : i = pl.length := by omega
   have hze : (pl.zip z.args).take pl.length = pl.zip z.args := List.take_of_length_le (by rw [List.length_zip]; have := Hal'.out; omega);rw [hze] at hS hlen;have Hre := hid (Zqc (hS.out.map HE2.out (World.grownBy.refl wr none)) Hx.out);have c0 : wr.cell? ⟨kb, 0, none⟩ = some (.pointer (some ⟨m, 0, none⟩)) := hS.out.cell (World.grownBy.refl wr none) 0;have Hlm := hid (Zqq Hok.out fi (pts [x]));have HX := hid (show Kv p pt.1 z fi x = ((pl.zip z.args).flatMap fun q => Xd ((q.1 : Nat) : Int) (vN p pt.1 q.2)) ++ (Xv p fi (pts [x])).flatMap fun r => Xd (vN p pt.1 z.dst) r by rw [Kv, Hpl'.out]);obtain ⟨rl, hrl'⟩ : ∃ rl, rl = Xv p fi (pts [x]) := ⟨_, rfl⟩
   rw [← hrl'] at Hre Hlm HX Hlen;have hrl5 : rl.length ≤ 5000 := by have := Hlen.out; omega
   clear hze hrl' hi hil;go_wp2_with (go_at_call 45; refine Hre.out.mono ?_; rintro e w5 ⟨v5, rfl, ho5, hg5⟩; obtain ⟨A5, c5, rfl, -, -, -, -⟩ := Zr ho5);have S5 := hS.out.grow hg5;have hq5 : ∀ n, MkQ kb vL' vD n → n < wr.heap.size := fun n e => by
    rcases e with e | e | e
    ·rw [e]; exact Ze hS.out.blk
    ·exact (hS.out.ol.lt n e).2
    ·exact (hS.out.od.lt n e).2
   have Hrow5 := hid (fun (wx : World) (hc : Chg (MkQ kb vL' vD) w5 wx) => Zor (hc.owns ho5 (fun g e q => by have := (ho5.lt g e).1; have := hq5 g q; omega)) (fun y hy => by have := Hlm.out y hy; omega));have HS5 := hid S5.re;have HE5 := hid (HE2.out.re S5);have HS5' := hid S5;clear S5 hq5 ho5 hg5 Hre c0;go_loopw [54] (fun s54 wi => ∃ i : Nat, i ≤ rl.length ∧ s54 = .int .i64 i ∧ ∃ vL'', Hid (MkS w5 base kb m pt z (.slice A7 z.args.length d7) vl vL' vD wi vL'' vD ((R ++ (pl.zip z.args).flatMap fun q => Xd ((q.1 : Nat) : Int) (vN p pt.1 q.2)) ++ (rl.take i).flatMap fun r => Xd (vN p pt.1 z.dst) r) D)) (fun s54 _ => rl.length - (intOf s54).toNat)
   case atStart => exact ⟨0, Nat.zero_le _, rfl, vL', hid (by simpa using HS5.out)⟩
   case round =>
    obtain ⟨i, hi, rfl, vL'', hS⟩ := hrel
    by_cases hil : i < rl.length
    ·obtain ⟨y, g2, off2, hy, rfl, hg2l, hyc, -⟩ := (Hrow5.out wr hS.out.chg).at_ hil;rw [Nat.mul_one] at hyc;have hlen2 : ((R ++ (pl.zip z.args).flatMap fun q => Xd ((q.1 : Nat) : Int) (vN p pt.1 q.2)) ++ (rl.take i).flatMap fun r => Xd (vN p pt.1 z.dst) r).length ≤ 30000000 := by
      have := Zag (fun r : Int => Xd (vN p pt.1 z.dst) r) (fun _ => U5 _ _) (rl.take i);rw [List.length_take] at this;rw [List.length_append];omega
     have hy5 := Hlm.out y (List.mem_of_getElem? hy);have c5 : wr.cell? ⟨kb, 5, none⟩ = some (.string ⟨z.dst.toArray⟩) := hS.out.cell (World.grownBy.refl wr none) 5;have Hv := hid (fun (W' : World) (hg : wr.grownBy W' none) (s : Str) => Ur HE5.out (hS.out.grow hg) s);have Hp := hid (fun (W' : World) (hg : wr.grownBy W' none) => Q4 HE5.out (hS.out.grow hg) (Us Hok.out pt.1 z.dst) hy5 hlen2);have Hm := hid (Ziv (fun r : Int => Xd (vN p pt.1 z.dst) r) hy);have hg := World.grownBy.refl wr none;clear hlen2 hy hy5;go_wp2_with (first | (go_at_call 94; refine (Hv.out _ hg _).mono ?_; rintro e w3 ⟨rfl, hg1⟩; have hg := Zc hg hg1; clear hg1) | (go_at_call 95; refine (Hp.out _ hg).mono ?_; rintro e w4 ⟨rfl, vL2, h2⟩));go_roundw
     case rel => exact ⟨i + 1, by omega, by go_num, vL2, by rw [Hm.out, ← List.append_assoc]; exact h2⟩
     case measure => simp [intOf]; omega
    ·obtain rfl : i = rl.length := by omega
     rw [List.take_length] at hS;go_wp2;go_end0;refine ⟨rfl, vL'', ?_⟩;rw [HX.out, ← List.append_assoc];exact HS2'.out.back (HS5'.out.back hS.out)
end Go.Proofs.YtiheiaaifdjpeaaGreat
namespace Go.Proofs.YtiheiaaifdjpeaaGreat
open Lib(hid)
open Go.RowKit Go.Shelf
variable {wE : World} {base kb lo Bi m : Nat} {p : GProg} {pt : GPt} {z : GIns} {va vl vL0 vD0 : Value} {W W' : World} {vL vD v' : Value} {R : List GRel} {D : List GDial}
def MkDial (wE : World) (base kb m : Nat) (p : GProg) (pt : GPt) (z : GIns) (va vl vL0 vD0 : Value) (R : List GRel) (D : List GDial) (e : Ending) (w' : World) : Prop :=
 e = .returned (.tuple #[]) ∧ ∃ vL' vD' d, MkS wE base kb m pt z va vl vL0 vD0 w' vL' vD' (R ++ V5 ⟨6, vN p pt.1 z.a, 0, D.length⟩ [vN p pt.1 z.a]) (D ++ [d]) ∧ d.at_ = pt ∧ d.args = z.args.map (vN p pt.1) ∧ d.dst = vN p pt.1 z.dst
theorem infoI1 : (Tryz.prog.info? 3).map (fun i => (i.zero, i.size, i.bytes)) = some (some (.int .i64 0), 1, 8) := by kernel_rfl
theorem Znn (w : World) (g : Nat) (a b c d e : Value) : w.grownBy (((((w.setCell ⟨g, 0, none⟩ a).setCell ⟨g, 1, none⟩ b).setCell ⟨g, 2, none⟩ c).setCell ⟨g, 3, none⟩ d).setCell ⟨g, 4, none⟩ e) (some g) :=
 Zl (p := ⟨g, 4, none⟩) (Zl (p := ⟨g, 3, none⟩) (Zl (p := ⟨g, 2, none⟩) (Zl (p := ⟨g, 1, none⟩) (Zl (p := ⟨g, 0, none⟩) (World.grownBy.refl w (some g)) rfl a) rfl b) rfl c) rfl d) rfl e
theorem Zjo {a b : Value} (h : ∀ g, a.ownBlock = some g → b.ownBlock = some g → False) : Apart a b := by
 cases ha : a.ownBlock with
 | none => exact .inl ha
 | some g => exact .inr fun e => h g ha (e ▸ ha)
theorem Zng (E : MkE wE base kb lo Bi m p pt z va vl vL0 vD0) (S : MkS wE base kb m pt z va vl vL0 vD0 W vL vD R D) (hR : R.length ≤ 30000000) (hD : D.length ≤ 1000000) (hz : z.args.length ≤ 1000000) :
  Calls Tryz.prog 79 #[.pointer (some ⟨kb, 0, none⟩)] W (MkDial wE base kb m p pt z va vl vL0 vD0 R D) := by
 have hok := (S.map E (World.grownBy.refl W none)).ok;obtain ⟨A7, d7, hva, l1, l2, l3, hA⟩ := (S.ins E (World.grownBy.refl W none)).args.open_;subst hva;obtain ⟨AD, cD, hvd, -, -, -, -⟩ := Zr S.od;subst hvd;have HSc := hid (show ∀ W' : World, W.grownBy W' none → W'.cell? ⟨kb, 1, none⟩ = some (.int .i64 pt.1) ∧ W'.cell? ⟨kb, 2, none⟩ = some (.int .i64 pt.2.1) ∧ W'.cell? ⟨kb, 3, none⟩ = some (.int .i64 pt.2.2) ∧ W'.cell? ⟨kb, 5, none⟩ = some (.string ⟨z.dst.toArray⟩) from fun W' hg => ⟨S.cell hg 1, S.cell hg 2, S.cell hg 3, S.cell hg 5⟩);have Hv := hid (fun (W' : World) (hg : W.grownBy W' none) (s : Str) => Ur E (S.grow hg) s);have HS0 := hid S;have HE0 := hid E;have Hok := hid hok;have hg := World.grownBy.refl W none;clear S E hA hok;go_enter Tryz.func79, Tryz.ntmps79;go_upto_region 0 with (fail)
 go_cut [2] (fun s2 wx => ∃ b2, s2 = .pointer (some ⟨b2, 0, none⟩) ∧ W.heap.size ≤ b2 ∧ Hid (wx.heap[b2]? = some (.cells #[.int .i64 pt.1, .int .i64 pt.2.1, .int .i64 pt.2.2, .slice none 0 0, .int .i64 (vN p pt.1 z.dst)] 82 (0, 0))) ∧ Hid (W.grownBy wx none))
 case first =>
  refine wp_region_held_drew (S := (fun W' => W'.cell? ⟨kb, 1, none⟩ = some (.int .i64 pt.1) ∧ W'.cell? ⟨kb, 2, none⟩ = some (.int .i64 pt.2.1) ∧ W'.cell? ⟨kb, 3, none⟩ = some (.int .i64 pt.2.2) ∧ W'.cell? ⟨kb, 5, none⟩ = some (.string ⟨z.dst.toArray⟩))) (by kernel_rfl) (HSc.out _ (Zf hg)) (fun hHeld => ?_);refine Z1 (i := 0) (v := ?v1) rfl (by kernel_rfl) (by kernel_rfl) (by kernel_rfl) (fun _ _ _ h => h) (Or.inl ⟨by rfl, ?hy1⟩) hHeld ?rest1
  case hy1 => (intro w hSw; (try dsimp only at hSw); go_simp; (try with_reducible rfl))
  try simp only [Act.put, List.setIfInBounds_toArray, List.set_cons_zero, List.set_cons_succ]
  refine Z1 (i := 1) (v := ?v2) rfl (by kernel_rfl) (by kernel_rfl) (by kernel_rfl) (fun _ _ _ h => h) (Or.inl ⟨by rfl, ?hy2⟩) hHeld ?rest2
  case hy2 => (intro w hSw; (try dsimp only at hSw); go_simp; (try with_reducible rfl))
  try simp only [Act.put, List.setIfInBounds_toArray, List.set_cons_zero, List.set_cons_succ]
  refine Z1 (i := 2) (v := ?v3) rfl (by kernel_rfl) (by kernel_rfl) (by kernel_rfl) (fun _ _ _ h => h) (Or.inl ⟨by rfl, ?hy3⟩) hHeld ?rest3
  case hy3 => (intro w hSw; (try dsimp only at hSw); go_simp; (try with_reducible rfl))
  try simp only [Act.put, List.setIfInBounds_toArray, List.set_cons_zero, List.set_cons_succ]
  refine Z1 (i := 3) (v := ?v4) rfl (by kernel_rfl) (by kernel_rfl) (by kernel_rfl) (fun _ _ _ h => h) (Or.inl ⟨by rfl, ?hy4⟩) hHeld ?rest4
  case hy4 => (intro w hSw; (try dsimp only at hSw); go_simp; (try with_reducible rfl))
  try simp only [Act.put, List.setIfInBounds_toArray, List.set_cons_zero, List.set_cons_succ]
  refine Z1 (i := 4) (v := ?v5) rfl (by kernel_rfl) (by kernel_rfl) (by kernel_rfl) (fun _ _ _ h => h) (Or.inl ⟨by rfl, ?hy5⟩) hHeld ?rest5
  case hy5 => (intro w hSw; (try dsimp only at hSw); go_simp; (try with_reducible rfl))
  try simp only [Act.put, List.setIfInBounds_toArray, List.set_cons_zero, List.set_cons_succ]
  refine Z1 (i := 5) (v := ?v6) rfl (by kernel_rfl) (by kernel_rfl) (by kernel_rfl) (fun _ _ _ h => h) (Or.inl ⟨by rfl, ?hy6⟩) hHeld ?rest6
  case hy6 => (intro w hSw; (try dsimp only at hSw); go_simp; (try with_reducible rfl))
  try simp only [Act.put, List.setIfInBounds_toArray, List.set_cons_zero, List.set_cons_succ]
  refine Z1 (i := 6) (v := ?v7) rfl (by kernel_rfl) (by kernel_rfl) (by kernel_rfl) (fun _ _ _ h => h) (Or.inl ⟨by rfl, ?hy7⟩) hHeld ?rest7
  case hy7 => (intro w hSw; (try dsimp only at hSw); go_simp; (try with_reducible rfl))
  try simp only [Act.put, List.setIfInBounds_toArray, List.set_cons_zero, List.set_cons_succ]
  refine Z1 (i := 7) (v := ?v8) rfl (by kernel_rfl) (by kernel_rfl) (by kernel_rfl) (fun _ _ _ h => h) (Or.inl ⟨by rfl, ?hy8⟩) hHeld ?rest8
  case hy8 => (intro w hSw; (try dsimp only at hSw); go_simp; (try with_reducible rfl))
  try simp only [Act.put, List.setIfInBounds_toArray, List.set_cons_zero, List.set_cons_succ]
  refine Z1 (i := 8) (v := ?v9) rfl (by kernel_rfl) (by kernel_rfl) (by kernel_rfl) (fun _ _ _ h => h) (Or.inl ⟨by rfl, ?hy9⟩) hHeld ?rest9
  case hy9 => (intro w hSw; (try dsimp only at hSw); go_simp; (try with_reducible rfl))
  try simp only [Act.put, List.setIfInBounds_toArray, List.set_cons_zero, List.set_cons_succ]
  refine Z1 (i := 9) (v := ?v10) rfl (by kernel_rfl) (by kernel_rfl) (by kernel_rfl) (fun _ _ _ h => h) (Or.inl ⟨by rfl, ?hy10⟩) hHeld ?rest10
  case hy10 => (intro w hSw; (try dsimp only at hSw); go_simp; (try with_reducible rfl))
  try simp only [Act.put, List.setIfInBounds_toArray, List.set_cons_zero, List.set_cons_succ]
  refine doH2 (i := 10) (j := 12) (by kernel_rfl) rfl rfl (fun K' hK => ?_) (fun K' hK => ?_)
  ·go_simp;go_at_call 94;refine (Hv.out _ (Zf hg) _).mono ?_;rintro e w1 ⟨rfl, hg1⟩;have hg2 := Zc (Zf hg) hg1;refine hK.out _ _ (HSc.out _ hg2) (fun hHeld => ?_)
   try simp only [Act.put, List.setIfInBounds_toArray, List.set_cons_zero, List.set_cons_succ]
   refine Z1 (i := 11) (v := ?v11) rfl (by kernel_rfl) (by kernel_rfl) (by kernel_rfl) (fun _ _ _ h => h) (Or.inl ⟨by rfl, ?hy11⟩) hHeld ?rest11
   case hy11 => (intro w hSw; (try dsimp only at hSw); go_simp; (try with_reducible rfl))
   try simp only [Act.put, List.setIfInBounds_toArray, List.set_cons_zero, List.set_cons_succ]
   refine doH (i := 12) (by kernel_rfl) rfl (fun K' hK => ?_);go_simp;refine hK.out _ _ (HSc.out _ (Zd hg2 _)) (fun hHeld => ?_)
   try simp only [Act.put, List.setIfInBounds_toArray, List.set_cons_zero, List.set_cons_succ]
   refine doH (i := 13) (by kernel_rfl) rfl (fun K' hK => ?_);go_simp;refine hK.out _ _ (HSc.out _ (Zd hg2 _)) (fun _ => ?_)
   try simp only [Act.put, List.setIfInBounds_toArray, List.set_cons_zero, List.set_cons_succ]
   refine wpAnyH_done (by kernel_rfl) ?_ _;go_wp2_with fail;go_meet;exact ⟨_, rfl, hg2.size, hid (World.alloc_heap_new _ _), hid (Zd hg2 _)⟩
  ·go_simp;have hga := Zf (Zd hg (.cells #[.int .i64 0, .int .i64 0, .int .i64 0, .slice none 0 0, .int .i64 0] 82));refine hK.out _ _ (HSc.out _ hga) (fun hHeld => ?_)
   try simp only [Act.put, List.setIfInBounds_toArray, List.set_cons_zero, List.set_cons_succ]
   refine doH (i := 10) (by kernel_rfl) rfl (fun K' hK => ?_);go_simp;go_at_call 94;refine (Hv.out _ hga _).mono ?_;rintro e w1 ⟨rfl, hg1⟩;have hg2 := Zc hga hg1;have hbz := (hg1.block W.heap.size (by simp [World.drew]) (by simp)).trans (World.alloc_heap_new W (.cells #[.int .i64 0, .int .i64 0, .int .i64 0, .slice none 0 0, .int .i64 0] 82));obtain ⟨kz, fz⟩ := Za hbz;have z0 := kz 0;have z1 := kz 1;have z2 := kz 2;have z3 := kz 3;have z4 := kz 4;have y0 := fz 0;have y1 := fz 1;have y2 := fz 2;have y3 := fz 3;have y4 := fz 4;clear kz fz;have hgf := Znn w1 W.heap.size (.int .i64 pt.1) (.int .i64 pt.2.1) (.int .i64 pt.2.2) (.slice none 0 0) (.int .i64 (vN p pt.1 z.dst));have hgz := Yo hg2 hgf (fun q e => by injection e with e; omega);refine hK.out _ _ (HSc.out _ hg2) (fun hHeld => ?_)
   try simp only [Act.put, List.setIfInBounds_toArray, List.set_cons_zero, List.set_cons_succ]
   refine Z1 (i := 11) (v := ?v12) rfl (by kernel_rfl) (by kernel_rfl) (by kernel_rfl) (fun _ _ _ h => h) (Or.inl ⟨by rfl, ?hy12⟩) hHeld ?rest12
   case hy12 => (intro w hSw; (try dsimp only at hSw); go_simp; (try with_reducible rfl))
   try simp only [Act.put, List.setIfInBounds_toArray, List.set_cons_zero, List.set_cons_succ]
   refine doH (i := 13) (by kernel_rfl) rfl (fun K' hK => ?_);go_simp;refine hK.out _ _ (HSc.out _ hgz) (fun _ => ?_)
   try simp only [Act.put, List.setIfInBounds_toArray, List.set_cons_zero, List.set_cons_succ]
   refine wpAnyH_done (by kernel_rfl) ?_ _;go_wp2_with fail;go_meet;exact ⟨W.heap.size, rfl, Nat.le_refl _, hid (Zs (Zs (Zs (Zs (Zs hbz 0 _) 1 _) 2 _) 3 _) 4 _), hid hgz⟩
 case rest =>
  obtain ⟨b2, rfl, hb2l, hb2, hgc⟩ := hcut;have SC := HS0.out.grow hgc.out;have c10 : wc.cell? ⟨kb, 10, none⟩ = some (.slice A7 z.args.length d7) := SC.cell (World.grownBy.refl wc none) 10;have hkW := Ze HS0.out.blk;have hlL : ∀ g, vL.ownBlock = some g → g < W.heap.size := fun g e => (HS0.out.ol.lt g e).2
  have hlD : ∀ g, (Value.slice AD D.length cD).ownBlock = some g → g < W.heap.size := fun g e => (HS0.out.od.lt g e).2
  have hlR : ∀ d ∈ D, ∀ g, d.row.ownBlock = some g → g < W.heap.size := fun d hd g e => ((HS0.out.ar d hd).1.lt g e).2
  have hEW := HS0.out.chg.size;have hb2c := Ze hb2.out;have hcW := hgc.out.size;have hbW := HS0.out.lt HE0.out;have hoth : ∀ (X Y : World) (vA : Value) (n : Nat) (xs : List Value), X.ownsRow wc.heap.size 3 1 vA n xs → MkS wE base kb m pt z (.slice A7 z.args.length d7) vl vL0 vD0 X vL (.slice AD D.length cD) R D → Chg (fun n => n = b2 ∨ vA.ownBlock = some n) X Y → MkS wE base kb m pt z (.slice A7 z.args.length d7) vl vL0 vD0 Y vL (.slice AD D.length cD) R D := fun X Y vA n xs hown hX hc =>
   hX.other hc (fun e => by
                rcases e with e | e
                ·omega
                ·have := (hown.lt _ e).1; omega) (fun g e q => by
                                                  have := hlL g e
                                                  rcases q with q | q
                                                  ·omega
                                                  ·have := (hown.lt _ q).1; omega) (fun g e q => by
                                                                                    have := hlD g e
                                                                                    rcases q with q | q
                                                                                    ·omega
                                                                                    ·have := (hown.lt _ q).1; omega) (fun n hn q => by
                                                                                                                      rcases q with q | q
                                                                                                                      ·omega
                                                                                                                      ·have := (hown.lt _ q).1; omega) (fun d hd g e q => by
                                                                                                                                                        have := hlR d hd g e
                                                                                                                                                        rcases q with q | q
                                                                                                                                                        ·omega
                                                                                                                                                        ·have := (hown.lt _ q).1; omega)
  have Hoth := hid hoth;have HF := hid (And.intro hlL hlD);have HSC := hid SC;clear hlL hlD hlR hoth SC Hv HSc;go_wp2_with fail;clear c10;go_loopw [24] (fun s24 wr => ∃ i : Nat, i ≤ z.args.length ∧ s24 = .int .i64 i ∧ ∃ vA, Hid (MkS wE base kb m pt z (.slice A7 z.args.length d7) vl vL0 vD0 wr vL (.slice AD D.length cD) R D) ∧ Hid (wr.heap[b2]? = some (.cells #[.int .i64 pt.1, .int .i64 pt.2.1, .int .i64 pt.2.2, vA, .int .i64 (vN p pt.1 z.dst)] 82 (0, 0))) ∧ Hid (wr.ownsRow wc.heap.size 3 1 vA i (((z.args.take i).map (vN p pt.1)).map Jd)) ∧ Hid (Chg (fun n => n = b2) wc wr)) (fun s24 _ => z.args.length - (intOf s24).toNat)
  case atStart => exact ⟨0, Nat.zero_le _, rfl, .slice none 0 0, HSC.out, hb2.out, World.ownsRow_nil _ _ _ _, Chg.refl _ _⟩
  case round =>
   obtain ⟨i, hi, rfl, vA, hS, hbx, hown, hchg⟩ := hrel;have hcr : wc.heap.size ≤ wr.heap.size := hchg.out.size;obtain ⟨AA, cA, hvA, -, -, -, -⟩ := Zr hown.out;subst hvA
   by_cases hil : i < z.args.length
   ·obtain ⟨s, g, off, hs, rfl, hgl, hsc, -⟩ := ((hS.out.ins HE0.out (World.grownBy.refl wr none)).args).at_ hil;rw [Nat.mul_one] at hsc;have hv4 := fun (W' : World) (hg : wr.grownBy W' none) => Ur HE0.out (hS.out.grow hg) s
    have Hv4 := hid hv4;have Hs := hid hs;have hb2r := Ze hbx.out;have hwr := hS.out.chg.size;have x3 : wr.cell? ⟨b2, 3, none⟩ = some (.slice AA i cA) := (Za hbx.out).1 3;have hne2 : some b2 ≠ (Value.slice AA i cA).ownBlock := fun e => by have := (hown.out.lt b2 e.symm).1; omega
    clear hs hv4;go_upto_region 4 with (fail)
    go_region_law (first
                   | (go_simp; go_at_call 94; go_must (refine (Hv4.out _ (by first | exact World.grownBy.refl _ _ | exact Zf (World.grownBy.refl _ _) | exact Zi (World.grownBy.refl _ _) _)).mono ?_; rintro e w3 ⟨rfl, hg3⟩; have hg3' := Zc (show wr.grownBy _ none by first | exact World.grownBy.refl _ _ | exact Zf (World.grownBy.refl _ _) | exact Zi (World.grownBy.refl _ _) _) hg3; have hbx3 := (hg3'.block b2 hb2r (by simp)).trans hbx.out; have x3' : w3.cell? ⟨b2, 3, none⟩ = some (.slice AA i cA) := (Za hbx3).1 3; have x3a : ∀ o : Obj, (w3.alloc o).cell? ⟨b2, 3, none⟩ = some (.slice AA i cA) := fun o => (World.cell?_alloc_some w3 _ o (by rw [x3']; rfl)).trans x3'; have hs3 := hg3'.size; have Hbx3 := hid hbx3; have Hg3 := hid hg3'; have Hown3 := hid ((Chg.grown (Q := fun _ => False) hg3' (fun r e => by cases e)).owns hown.out (fun _ _ e => e)); clear hg3 hg3' hbx3))
                   | (refine Vl rfl (.tmp 29) (.tmp 33) 54 rfl wc.heap.size 3 _ 1 8 Tryz.underlying54 infoI1 rfl (by decide) (.slice AA i cA) _ _ rfl (Hown3.out.alloc _) w3.heap.size [Jd (vN p pt.1 s)] rfl (by simp [Jd, Value.oneCell']) rfl _ _ (World.alloc_heap_new w3 _) rfl (by unfold maxLen; omega) (by omega) (by simp; omega) ?_; intro G cap w5 ho hg hor;
                      have hb5 := (hg.block b2 (by simp; omega) hne2).trans ((Below.heap_alloc w3 _ b2 (by omega)).trans Hbx3.out);
                      have y3 : w5.cell? ⟨b2, 3, none⟩ = some (.slice AA i cA) := (Za hb5).1 3; have y4 : w5.frozen? ⟨b2, 3, none⟩ = false := (Za hb5).2 3;
                      have Hb5 := hid hb5; have Ho := hid ho; have Hg := hid hg; have Hor := hid hor; clear hb5 ho hg hor))
    all_goals (go_wp2_with fail; go_roundw)
    all_goals (first | (case measure => simp [intOf]; omega) | skip)
    all_goals
     have hgs : w5.grownBy (w5.setCell ⟨b2, 3, none⟩ (.slice (some ⟨G, 0, none⟩) (i + 1) cap)) (some b2) := Zl (World.grownBy.refl _ _) rfl _;have hc : Chg (fun n => n = b2 ∨ (Value.slice AA i cA).ownBlock = some n) wr (w5.setCell ⟨b2, 3, none⟩ (.slice (some ⟨G, 0, none⟩) (i + 1) cap)) :=
      ((Chg.grown (Q := fun n => n = b2 ∨ (Value.slice AA i cA).ownBlock = some n) Hg3.out (fun r e => by cases e)).trans (Chg.alloc (fun _ => False) _ _) (fun _ _ e => e.elim)).trans ((Chg.grown (Q := fun n => n = b2 ∨ (Value.slice AA i cA).ownBlock = some n) Hg.out (fun r e => .inr e)).trans (Chg.grown (Q := fun n => n = b2) hgs (fun r e => by injection e with e; exact e.symm)) (fun _ _ e => .inl e)) (fun _ _ e => e)
     have hG : wc.heap.size ≤ G := (Y2 Ho.out).1;have htk : ((z.args.take (i + 1)).map (vN p pt.1)).map Jd = (((z.args.take i).map (vN p pt.1)).map Jd) ++ [Jd (vN p pt.1 s)] := by rw [List.take_add_one, Hs.out]; simp
     refine ⟨i + 1, by omega, by go_num, _, hid (Hoth.out _ _ _ _ _ hown.out hS.out hc), hid (Zs Hb5.out 3 _), hid (by rw [htk]; exact Ho.out.kept hgs (.inr (by intro e; injection e with e; simp only at e; omega))), hid (hchg.out.trans hc (fun n hn e => ?_))⟩
     rcases e with e | e
     ·exact e
     ·have := (hown.out.lt _ e).1; omega
   ·obtain rfl : i = z.args.length := by omega
    rw [List.take_length] at hown;have hwr := hS.out.chg.size;have Hv4 := hid (fun (W' : World) (hg : wr.grownBy W' none) (s : Str) => Ur HE0.out (hS.out.grow hg) s);have c6 : wr.cell? ⟨kb, 6, none⟩ = some (.string ⟨z.a.toArray⟩) := hS.out.cell (World.grownBy.refl wr none) 6;go_upto_region 7 with (go_at_call 94; refine (Hv4.out _ (World.grownBy.refl wr none) _).mono ?_; rintro e w6 ⟨rfl, hg6⟩)
    have S6 := hS.out.grow hg6;have c13 : w6.cell? ⟨kb, 13, none⟩ = some (.slice AD D.length cD) := S6.cell (World.grownBy.refl w6 none) 13;have Hp := hid (fun (W' : World) (hg : w6.grownBy W' none) (g : Nat) (hb : W'.heap[g]? = some (.cells #[.int .i64 (vN p pt.1 z.a)] 3 (0, 0))) => Ql (HE0.out.re S6) (S6.re.grow hg) ⟨6, vN p pt.1 z.a, 0, D.length⟩ (must1 hb (Us Hok.out pt.1 z.a)) hR);have HS6 := hid S6;have hc6 : Chg (fun _ => False) wr w6 := Chg.grown hg6 (fun r e => by cases e);have Hbx6 := hid (hc6.at_ hbx.out (fun e => e));have Hown6 := hid (hc6.owns hown.out (fun _ _ e => e));have hs6 := hg6.size;clear c6 Hv4 S6 hc6 hg6;go_upto_region 8 with (go_at_call 93; refine (Hp.out _ (World.grownBy_alloc _ _ _) _ (World.alloc_heap_new _ _)).mono ?_; rintro e w7 ⟨rfl, vL2, h7⟩)
    have hq7 : ∀ n, wc.heap.size ≤ n ∨ n = b2 → ¬ MkQ kb vL (.slice AD D.length cD) n := fun n hn e => by
     rcases e with e | e | e
     ·omega
     ·have := HF.out.1 n e; omega
     ·have := HF.out.2 n e; omega
    have hbx7 := h7.chg.at_ Hbx6.out (hq7 b2 (.inr rfl));have hown7 := h7.chg.owns Hown6.out (fun g e => hq7 g (.inl (Hown6.out.lt g e).1));have H7 := hid h7;have Hbx7 := hid hbx7;have Hown7 := hid hown7;have t13 : w7.cell? ⟨kb, 13, none⟩ = some (.slice AD D.length cD) := h7.cell (World.grownBy.refl w7 none) 13;obtain ⟨kx, -⟩ := Za hbx7;have k0 := kx 0;have k1 := kx 1;have k2 := kx 2;have k3 := kx 3;have k4 := kx 4;have hkbl := Ze h7.blk;have hs7 := h7.chg.size;have hne1 : some kb ≠ (Value.slice AD D.length cD).ownBlock := fun e => by have := (HS0.out.od.lt kb e.symm).1; have := HE0.out.kbb; omega
    have hbl7 := h7.lt (HE0.out.re HS6.out);clear kx c13 Hp hq7 h7 hbx7 hown7
    go_region_law (refine Vl rfl (.tmp 59) (.tmp 61) 75 rfl base 82 _ 5 56 Tryz.underlying75 Zrw rfl (by decide) (.slice AD D.length cD) _ _ rfl (H7.out.od.alloc _) w7.heap.size [.int .i64 pt.1, .int .i64 pt.2.1, .int .i64 pt.2.2, .slice AA z.args.length cA, .int .i64 (vN p pt.1 z.dst)] rfl (by simp [Value.oneCell']) rfl _ _ (World.alloc_heap_new w7.drew _) rfl (by unfold maxLen; omega) (by omega) (by simp; omega) ?_; intro G cap w8 ho hg hor;
                   have hb8 := (hg.block kb (by simp; omega) hne1).trans ((Below.heap_alloc w7.drew _ kb hkbl).trans H7.out.blk);
                   have x1 : w8.cell? ⟨kb, 13, none⟩ = some (.slice AD D.length cD) := (Za hb8).1 13; have x2 : w8.frozen? ⟨kb, 13, none⟩ = false := (Za hb8).2 13;
                   have Hb8 := hid hb8; have Ho := hid ho; have Hg := hid hg; have Hor := hid hor; clear hb8 ho hg hor)
    all_goals (go_wp2_with fail; go_end0)
    all_goals
     have hgs : w8.grownBy (w8.setCell ⟨kb, 13, none⟩ (.slice (some ⟨G, 0, none⟩) (D.length + 1) cap)) (some kb) := Zl (World.grownBy.refl _ _) rfl _;have hc : Chg (fun n => n = kb ∨ (Value.slice AD D.length cD).ownBlock = some n) w7 (w8.setCell ⟨kb, 13, none⟩ (.slice (some ⟨G, 0, none⟩) (D.length + 1) cap)) :=
      ((Chg.grown (Q := fun n => n = kb ∨ (Value.slice AD D.length cD).ownBlock = some n) (Zi (World.grownBy.refl w7 none) 1) (fun r e => by cases e)).trans (Chg.alloc (fun _ => False) _ _) (fun _ _ e => e.elim)).trans ((Chg.grown (Q := fun n => n = kb ∨ (Value.slice AD D.length cD).ownBlock = some n) Hg.out (fun r e => .inr e)).trans (Chg.grown (Q := fun n => n = kb) hgs (fun r e => by injection e with e; exact e.symm)) (fun _ _ e => .inl e)) (fun _ _ e => e)
     have hG : base ≤ G := (Y2 Ho.out).1;have hkb := HE0.out.kbb;have hrow : (⟨pt, AA, cA, z.args.map (vN p pt.1), vN p pt.1 z.dst⟩ : GDial).row = .slice AA z.args.length cA := by simp [GDial.row]
     have hro : ∀ g, (Value.slice AA z.args.length cA).ownBlock = some g → wc.heap.size ≤ g ∧ g < w7.heap.size := fun g e => Hown7.out.lt g e
     have hvd : ∀ g, (Value.slice (some ⟨G, 0, none⟩) (D.length + 1) cap).ownBlock = some g → (Value.slice AD D.length cD).ownBlock = some g ∨ w7.heap.size ≤ g := fun g e => by
      injection e with e
      simp only at e;subst e
      rcases Hor.out with e | e
      ·exact .inl e
      ·right; rw [e]; simp
     refine ⟨rfl, vL2, _, ⟨pt, AA, cA, z.args.map (vN p pt.1), vN p pt.1 z.dst⟩, HS6.out.back (H7.out.pushD (HE0.out.re HS6.out) (Zs Hb8.out 13 _) hc (by simpa [List.flatMap_append, Vq] using Ho.out.kept hgs (.inr (by intro e; injection e with e; simp only at e; omega))) hvd ⟨?_, ?_, ?_⟩), rfl, rfl, rfl⟩
     ·rw [hrow, List.length_map]
      exact Qi (hc.owns Hown7.out (fun g e q => by
                                           have := hro g e
                                           rcases q with q | q
                                           ·omega
                                           ·have := HF.out.2 g q; omega)) (by omega)
     ·rw [hrow];refine Zjo fun g e q => ?_
      have := hro g q
      rcases H7.out.fl g e with e | e
      ·have := HF.out.1 g e; omega
      ·have := (Hown6.out.lt g q).2; omega
     ·rw [hrow];refine Zjo fun g e q => ?_
      have := hro g q
      rcases hvd g e with e | e
      ·have := HF.out.2 g e; omega
      ·omega
end Go.Proofs.YtiheiaaifdjpeaaGreat

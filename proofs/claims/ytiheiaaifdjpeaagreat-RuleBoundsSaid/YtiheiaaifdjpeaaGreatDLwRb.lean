/- The contract of gnomonlaw16.RuleBounds: it answers true. Condition: the program lies in memory. -/
import Derived.Test.YtiheiaaifdjpeaaGreatDRld
import Derived.Deep.CutRange
set_option linter.unusedVariables false
set_option linter.unusedSimpArgs false
set_option maxHeartbeats 8000000
set_option maxRecDepth 100000
namespace Go.Proofs.YtiheiaaifdjpeaaGreat
open Lib(hid)
open Go.RowKit Go.Shelf
theorem Zqa {lo m : Nat} {w : World} {p : GProg} (h : MapL lo w m p) {o : Nat} (ho : (∃ (j : Nat) (x : GPt × Nat × Nat), (Zg p p.length).of[o]? = some j ∧ (Zg p p.length).sites[j]? = some x ∧ x.2.1 = o) ∨ ∃ f, f < p.length ∧ o = (Zg p p.length).of.length + f) :
  ∃ (q : GPt) (f : Int), Calls Tryz.prog 34 #[.pointer (some ⟨m, 0, none⟩), .int .i64 o] w fun e w' => e = .returned (.tuple #[.agg #[.int .i64 q.1, .int .i64 q.2.1, .int .i64 q.2.2], .int .i64 0, .int .i64 f, .int .i64 0]) ∧ w.grownBy w' none := by
 rcases ho with ⟨j, x, h1, h2, h3⟩ | ⟨f, hf, rfl⟩
 ·refine ⟨x.1, -1, ?_⟩;have := Zms h h1 h2;rw [show (o : Int) - (x.2.1 : Int) = 0 by omega] at this;exact this
 ·exact ⟨(0, 0, 0), f, Zqb h hf⟩
theorem Zlz (p : GProg) (vp : Value) (w : World) (B : Nat) (hB : B ≤ w.heap.size) (h : ProgAt w B vp p) : Calls Tryz.prog 10 #[.agg #[vp]] w fun e w' => e = .returned (.bool true) ∧ w.grownBy w' none := by
 obtain ⟨A, c, rfl, m1, m2, m3, hA⟩ := h.open_;obtain ⟨W, hW⟩ : ∃ W : World, W = w.alloc (.cells #[.slice A p.length c] 24) := ⟨_, rfl⟩
 have hgW : w.grownBy W none := by rw [hW]; exact World.grownBy_alloc _ _ _
 have hb : W.heap[w.heap.size]? = some (.cells #[.slice A p.length c] 24 (0, 0)) := by rw [hW]; exact World.alloc_heap_new _ _
 have HS := hid (show ∀ W', W.grownBy W' none → W'.cell? ⟨w.heap.size, 0, none⟩ = some (.slice A p.length c) from fun W' hg => (World.cell?_of_block (hg.block w.heap.size (Ze hb) (by simp))).trans ((Za hb).1 0));have HP := hid (show ∀ W', W.grownBy W' none → ProgAt W' B (.slice A p.length c) p from fun W' hg => h.below funR.keeps (Zk (Zc hgW hg)) hB);have hBW : ∀ W', W.grownBy W' none → B ≤ W'.heap.size := fun W' hg => by have := hgW.size; have := hg.size; omega
 have HB := hid hBW;have hgr := Zkj p _ W B (HB.out W (World.grownBy.refl _ _)) (HP.out W (World.grownBy.refl _ _));have HgW := hid hgW;have hc := HS.out W (World.grownBy.refl _ _);clear hb hgW hA h hBW;go_enter Tryz.func10, Tryz.ntmps10;go_upto_region 1 with (fail)
 rw [← hW];clear hW;go_upto_if 20 with (go_at_call 47; refine hgr.mono ?_; rintro e w1 ⟨bg, rfl, hg1⟩)
 have hc1 := HS.out w1 hg1
 cases bg with
 | true =>
  go_wp2_with (go_at_call 48; refine (Jp _).mono ?_; rintro e w2 ⟨rfl, hg2⟩);go_ret;exact ⟨rfl, Zc HgW.out (Zc hg1 hg2)⟩
 | false =>
  by_cases hz : (Y9 p).1 = 0
  ·have hN := Zsi hz;have hs := Ztf hz;have hnew := Zom p _ w1 B (HB.out _ hg1) (HP.out _ hg1) (Zoc hN) hz;go_upto_region 6 with (go_at_call 13; refine hnew.mono ?_; rintro e w2 ⟨m, rfl, hM, hg2⟩)
   have hlens := hN.lens (Nat.le_refl p.length) (SLe.refl _);have hfn := hN.funcs;have hro := Zfv hM hs;have hRl := Zfu hN hs (l := pts p) (fun _ h => h) hN.codes;have hDl := Qt p (pts p);have hcd := hN.codes;have hok := Zoq hN (pts p) 0 (fun _ h => h);rw [Nat.zero_add] at hok;have HM := hid (show ∀ W', w2.grownBy W' none → MapL _ W' m p from fun W' hg => hM.grown hg);have HN := hid hN;have Hg2 := hid (Zc HgW.out (Zc hg1 hg2));have Hlens := hid hlens;obtain ⟨R, hR⟩ : ∃ R, R = Yq p (pts p) := ⟨_, rfl⟩
   have Hok := hid (show ∀ r ∈ R, RelOk p (Z7 p (pts p)).length r from fun r hr => hok r (by rw [hR] at hr; exact hr));have Hs := hid hs;rw [← hR] at hro hRl;clear hnew hc hc1 hM hN hgr hz hg2 hg1 HS HP HB hlens hs hok;go_upto_region 7 with (go_at_call 49; refine hro.mono ?_; rintro e w3 ⟨vL, vD, D, rfl, hoL, hoD, -, hD, hg3⟩)
   have hDn : D.length = (Z7 p (pts p)).length := by have := congrArg List.length hD; rwa [List.length_map] at this
   have hrow := Zle hoL;have hdrow := Zhg hoD;obtain ⟨AL, cL, rfl, -, -, -, -⟩ := Zr hoL;obtain ⟨AD, cD, rfl, -, -, -, -⟩ := Zr hoD;have HL := hid hrow;have HD := hid hdrow;have Hg3 := hid (Zc Hg2.out hg3);have HM3 := hid (show ∀ W', w3.grownBy W' none → MapL _ W' m p from fun W' hg => HM.out W' (Zc hg3 hg));have HDk := hid (And.intro hD (And.intro hDn hR));have hDl' : D.length ≤ 4096 := by omega
   rw [← hDn] at Hok;clear hrow hdrow hoL hoD hro hg3 HM hD hDn hDl hR;go_wp2_with fail;go_loopw [7, 9] (fun s7 s9 wr => ∃ i : Nat, i ≤ R.length ∧ s7 = .int .i64 (Xm 1 (R.take i)) ∧ s9 = .int .i64 i ∧ Hid (w3.grownBy wr none)) (fun _ s9 _ => R.length - (intOf s9).toNat)
   case atStart => exact ⟨0, Nat.zero_le _, rfl, rfl, World.grownBy.refl _ _⟩
   case round =>
    obtain ⟨i, hi, rfl, rfl, hg⟩ := hrel
    by_cases hil : i < R.length
    ·obtain ⟨r, g, off, hr, rfl, hgl, r0, r1, r2, r3⟩ := HL.out.at_ hil;have hb' := Zk hg.out;have r0' := cur hb' hgl r0;have r1' := cur hb' hgl r1;have r2' := cur hb' hgl r2;have r3' := cur hb' hgl r3;have ho := Hok.out r (List.mem_of_getElem? hr);have Hcn := hid (Zpf (k := 1) hr);have hcl := Zob 1 (R.take i);rw [List.length_take] at hcl;clear hr r0 r1 r2 r3 hb';go_upto_region 12 with (fail)
     obtain ⟨wA, hwA⟩ : ∃ wA, wA = wr.alloc (.cells #[.int .u8 r.kind, .int .i64 r.a, .int .i64 r.b, .int .i64 r.k] 84) := ⟨_, rfl⟩
     obtain ⟨bx, hbx⟩ : ∃ bx, bx = wr.heap.size := ⟨_, rfl⟩
     have hbA : wA.heap[bx]? = some (.cells #[.int .u8 r.kind, .int .i64 r.a, .int .i64 r.b, .int .i64 r.k] 84 (0, 0)) := by rw [hwA, hbx]; exact World.alloc_heap_new _ _
     have hgA : w3.grownBy wA none := by rw [hwA]; exact Zd hg.out _
     rw [← hwA, ← hbx];clear hwA hbx r0' r1' r2' r3';have HV := hid (fun n : Nat => Zhs (HM3.out _ (Zi hgA n)))
     have Hbx := hid (show ∀ W', wA.grownBy W' none → W'.cell? ⟨bx, 0, none⟩ = some (.int .u8 r.kind) ∧ W'.cell? ⟨bx, 1, none⟩ = some (.int .i64 r.a) ∧ W'.cell? ⟨bx, 2, none⟩ = some (.int .i64 r.b) ∧ W'.cell? ⟨bx, 3, none⟩ = some (.int .i64 r.k) from fun W' hg' => by
                          have hb2 := (hg'.block bx (Ze hbA) (by simp)).trans hbA
                          exact ⟨(Za hb2).1 0, (Za hb2).1 1, (Za hb2).1 2, (Za hb2).1 3⟩)
     have HgA := hid hgA;have Ho := hid ho;obtain ⟨k0, k1, k2, k3⟩ := Hbx.out wA (World.grownBy.refl _ _);have hA0 : ¬ (r.a < 0) := by have := ho.a0; omega
     have hA1 : r.a < ((Zg p p.length).vars.length : Int) := ho.a1;have hK0 : ¬ ((r.kind : Int) < 1) := by have := ho.k0; omega
     have hK1 : ¬ ((6 : Int) < (r.kind : Int)) := by have := ho.k0; omega
     clear ho hbA hgA;go_cut [64] from 45 to 64 (fun s64 wx => s64 = .bool false ∧ Hid (wA.grownBy wx none))
     case first =>
      go_quiet ((go_at_call 18; exact (HV.out _).mono fun e w' h => ⟨h.1, _, h.2.symm⟩));go_wp2_with fail;go_meet;exact ⟨by simp [hA0, hA1, hK0, hK1], hid (Zi (World.grownBy.refl wA none) _)⟩
     case rest =>
      obtain ⟨rfl, hgx⟩ := hcut;have hgx3 := Zc HgA.out hgx.out;obtain ⟨k0', k1', k2', k3'⟩ := Hbx.out wc hgx.out;have Hgx3 := hid hgx3;clear k0 k1 k2 k3 hA0 hA1 HV hgx3
      by_cases q1 : r.kind = 1
      ·have q1' : (r.kind : Int) = 1 := by omega
       obtain ⟨o, hbo, hor⟩ := Ho.out.base q1;obtain ⟨⟨qa, qb, qc⟩, fo, hobj⟩ := Zqa (HM3.out _ Hgx3.out) hor;rw [hbo] at k2';have hc1 : Xm 1 (R.take (i + 1)) = Xm 1 (R.take i) + 1 := by rw [Hcn.out, if_pos q1]
       have Hc1 := hid hc1;clear hbo hor hc1 q1;go_upto_region 19 with (go_at_call 34; refine hobj.mono ?_; rintro e w5 ⟨rfl, hg5⟩)
       have Hg5 := hid (Zc Hgx3.out hg5);clear hobj hg5 k0' k1' k2' k3' q1' hK0 hK1;go_wp2_with fail;go_roundw
       case rel => exact ⟨i + 1, by omega, by rw [Hc1.out]; go_num, by go_num, Zd Hg5.out _⟩
       case measure => simp [intOf]; omega
      ·have q1' : ¬ ((r.kind : Int) = 1) := by omega
       have hc1 : Xm 1 (R.take (i + 1)) = Xm 1 (R.take i) := by rw [Hcn.out, if_neg q1]; rfl
       have Hc1 := hid hc1;clear hc1
       by_cases q6 : r.kind = 6
       ·have q6' : (r.kind : Int) = 6 := by omega
        obtain ⟨c1, c2, c3⟩ := Ho.out.call q6;rw [c3] at k2';have c1' : ¬ (r.k < 0) := by omega
        clear q1 q6 c1 c3;go_wp2_with fail;go_roundw
        case rel => exact ⟨i + 1, by omega, by rw [Hc1.out], by go_num, Hgx3.out⟩
        case measure => simp [intOf]; omega
       ·have q6' : ¬ ((r.kind : Int) = 6) := by omega
        obtain ⟨c1, c2, c3⟩ := Ho.out.rest q1 q6;have c1' : ¬ (r.b < 0) := by omega
        have HV := hid (fun n : Nat => Zhs (HM3.out _ (Zi Hgx3.out n)));clear q1 q6 c1;go_upto_region 15 with (fail)
        by_cases q5 : r.kind = 5
        ·have q5' : (r.kind : Int) = 5 := by omega
         clear q5;go_quiet ((go_at_call 18; exact (HV.out _).mono fun e w' h => ⟨h.1, _, h.2.symm⟩));go_wp2_with fail;go_roundw
         case rel => exact ⟨i + 1, by omega, by rw [Hc1.out], by go_num, Zi Hgx3.out _⟩
         case measure => simp [intOf]; omega
        ·have q5' : ¬ ((r.kind : Int) = 5) := by omega
         rw [c3 q5] at k3';clear q5 c3;go_quiet ((go_at_call 18; exact (HV.out _).mono fun e w' h => ⟨h.1, _, h.2.symm⟩));go_wp2_with fail;go_roundw
         case rel => exact ⟨i + 1, by omega, by rw [Hc1.out], by go_num, Zi Hgx3.out _⟩
         case measure => simp [intOf]; omega
    ·obtain rfl : i = R.length := by omega
     rw [List.take_length];have hpt := Zct (HM3.out wr hg.out);have hPl : (Zg p p.length).pl.length = (pts p).length := by rw [Q6, List.length_map]
     have Hpl := hid hPl;clear hPl;go_upto_region 26 with (go_at_call 15; refine hpt.mono ?_; rintro e w4 ⟨hb3, A3, c3, rfl, hp1, hp2, hp3⟩)
     have hSl : SlAt ptR 3 w4 w4.heap.size (.slice A3 (Zg p p.length).pl.length c3) (Zg p p.length).pl := by
      refine ⟨A3, c3, rfl, hp1, hp2, fun k q hq => ?_⟩
      rcases hp3 with ⟨_, h0, _⟩ | ⟨g, cur, rfl, hgl, hgb, hgr⟩
      ·rw [h0] at hq; simp at hq
      ·exact ⟨g, 0, rfl, Ze hgb, by rw [Nat.zero_add]; exact (hgr k q hq)⟩
     have Hg4 := hid (Zc hg.out (Zj hb3));have HSl := hid hSl;have hl2 := Hlens.out.2.1;have hcR := Zob 1 R
     have HbR := hid (show ∀ i, Xm 1 (Yq p ((pts p).take i)) ≤ i from fun i => by
                          induction i with
                          | zero => simp [Yq, V2, Xm]
                          | succ i ih =>
                           cases hq : (pts p)[i]? with
                           | none =>
                            have e : (pts p).take (i + 1) = (pts p).take i := by rw [List.take_add_one, hq]; simp
                            rw [e]; omega
                           | some q =>
                            rw [(Zfr hq).1, Jb, Zjy]
                            split <;> omega)
     clear hSl hp3 hb3 hpt hg hil hi;go_wp2_with fail;go_loopw [7, 8, 16] (fun s7 s8 s16 wi => ∃ i : Nat, i ≤ (Zg p p.length).pl.length ∧ s7 = .int .i64 ((Xm 1 R : Int) - (Xm 1 (Yq p ((pts p).take i)) : Int)) ∧ s8 = .int .i64 (Z7 p ((pts p).take i)).length ∧ s16 = .int .i64 i ∧ Hid (w4.grownBy wi none)) (fun _ _ s16 _ => (Zg p p.length).pl.length - (intOf s16).toNat)
     case atStart => exact ⟨0, Nat.zero_le _, by simp [Yq, V2, Xm], by simp [Z7], rfl, World.grownBy.refl _ _⟩
     case round =>
      obtain ⟨i, hi, rfl, rfl, rfl, hg⟩ := hrel
      by_cases hil : i < (Zg p p.length).pl.length
      ·obtain ⟨⟨pf, pb, pi⟩, gl, offl, hq, rfl, hgl, l0, l1, l2⟩ := HSl.out.at_ hil;obtain ⟨f, y, z, q3, q4, q5, q6⟩ := Znz hq;have hl := Zk hg.out;have l0' := cur hl hgl l0;have l1' := cur hl hgl l1;have l2' := cur hl hgl l2;simp only at l0' l1' l2';have hins := Zfk (HM3.out _ (Zc Hg4.out hg.out)) q4 q5 q6;simp only [insV] at hins;obtain ⟨hp1, hp2⟩ := Zfr q3;have hcb := Zjy (p := p) (Z7 p ((pts p).take i)).length ((pf, pb, pi), z);have hb1 := HbR.out i;have hb2 := HbR.out (i + 1);have hdn := Zof HN.out q4 q5 q6;have Hq3 := hid q3;have Hp := hid (And.intro hp1 hp2);have hcn : Xm 1 (Yq p ((pts p).take (i + 1))) = Xm 1 (Yq p ((pts p).take i)) + (if Qd z then 1 else 0) := by rw [hp1, Jb, hcb]
       have Hcn := hid hcn;have hdl := Qt p ((pts p).take i);rw [List.length_take] at hdl;have Hl := hid (show ∀ W', w4.grownBy W' none → W'.cell? ⟨gl, offl + i * 3, none⟩ = some (.int .i64 pf) ∧ W'.cell? ⟨gl, offl + i * 3 + 1, none⟩ = some (.int .i64 pb) ∧ W'.cell? ⟨gl, offl + i * 3 + 2, none⟩ = some (.int .i64 pi) from fun W' hg' => ⟨cur (Zk hg') hgl l0, cur (Zk hg') hgl l1, cur (Zk hg') hgl l2⟩);have Hdn := hid hdn;clear q3 q4 q5 q6 hq l0 l1 l2 hl hp1 hp2 hcb hcn hdn;go_upto_region 30 with (go_at_call 17; refine hins.mono ?_; rintro e w7 ⟨A7, d7, A8, d8, rfl, -, hg7⟩)
       obtain ⟨W7, hW7⟩ : ∃ W7, W7 = w7.alloc (.cells #[.int .u8 z.op, .string ⟨z.dst.toArray⟩, .string ⟨z.a.toArray⟩, .string ⟨z.b.toArray⟩, .int .i64 z.n, .string ⟨z.fn.toArray⟩, .slice A7 z.args.length d7, .slice A8 z.labels.length d8] 38) := ⟨_, rfl⟩
       rw [← hW7];obtain ⟨bz, hbz⟩ : ∃ bz, bz = w7.heap.size := ⟨_, rfl⟩
       rw [← hbz];have hbx := World.alloc_heap_new w7 (.cells #[.int .u8 z.op, .string ⟨z.dst.toArray⟩, .string ⟨z.a.toArray⟩, .string ⟨z.b.toArray⟩, .int .i64 z.n, .string ⟨z.fn.toArray⟩, .slice A7 z.args.length d7, .slice A8 z.labels.length d8] 38);rw [← hW7, ← hbz] at hbx;have k0 : W7.cell? ⟨bz, 0, none⟩ = some (.int .u8 z.op) := (Za hbx).1 0;have k1 : W7.cell? ⟨bz, 1, none⟩ = some (.string ⟨z.dst.toArray⟩) := (Za hbx).1 1;have k6 : W7.cell? ⟨bz, 6, none⟩ = some (.slice A7 z.args.length d7) := (Za hbx).1 6;have Hg47 := hid (show w4.grownBy W7 none by rw [hW7]; exact Zd (Zc hg.out hg7) _);clear hW7 hbz hbx hins hg7 l0' l1' l2';have hwr : IntKind.i64.wrap ((Xm 1 R : Int) - (Xm 1 (Yq p ((pts p).take i)) : Int) - 1) = (Xm 1 R : Int) - (Xm 1 (Yq p ((pts p).take i)) : Int) - 1 := by rw [IntKind.wrap_i64]; omega
       by_cases hbs : Qd z = true
       ·have Hc1 := hid (show (Xm 1 (Yq p ((pts p).take (i + 1))) : Int) = (Xm 1 (Yq p ((pts p).take i)) : Int) + 1 by rw [Hcn.out, if_pos hbs]; omega);have hop : z.op = 1 ∨ z.op = 2 ∨ z.op = 4 := by simp only [Qd, Bool.or_eq_true, beq_iff_eq] at hbs; omega
        have Hd2 := hid (show Z7 p ((pts p).take (i + 1)) = Z7 p ((pts p).take i) by rw [Hp.out.2, Y4, if_neg (by simp only; omega), List.append_nil]);clear hbs;have fin : ∀ x : Int, x = (Xm 1 R : Int) - (Xm 1 (Yq p ((pts p).take i)) : Int) - 1 → x = (Xm 1 R : Int) - (Xm 1 (Yq p ((pts p).take (i + 1))) : Int) := fun x hx => by rw [hx, Hc1.out]; omega
        have Fin := hid fin;clear fin
        by_cases o1 : (z.op : Int) = 1
        ·clear hop;go_wp2_with fail;go_roundw
         case rel => exact ⟨i + 1, by omega, by rw [← Fin.out _ rfl], by rw [Hd2.out], by go_num, Hg47.out⟩
         case measure => simp [intOf]; omega
        ·by_cases o2 : (z.op : Int) = 2
         ·clear hop;go_wp2_with fail;go_roundw
          case rel => exact ⟨i + 1, by omega, by rw [← Fin.out _ rfl], by rw [Hd2.out], by go_num, Hg47.out⟩
          case measure => simp [intOf]; omega
         ·have o4 : (z.op : Int) = 4 := by omega
          clear hop;go_wp2_with fail;go_roundw
          case rel => exact ⟨i + 1, by omega, by rw [← Fin.out _ rfl], by rw [Hd2.out], by go_num, Hg47.out⟩
          case measure => simp [intOf]; omega
       ·have Hc1 := hid (show Xm 1 (Yq p ((pts p).take (i + 1))) = Xm 1 (Yq p ((pts p).take i)) by rw [Hcn.out, if_neg hbs]; rfl);have hop : z.op ≠ 1 ∧ z.op ≠ 2 ∧ z.op ≠ 4 := by simp only [Qd, Bool.or_eq_true, beq_iff_eq] at hbs; omega
        have o1 : ¬ ((z.op : Int) = 1) := by omega
        have o2 : ¬ ((z.op : Int) = 2) := by omega
        have o4 : ¬ ((z.op : Int) = 4) := by omega
        clear hbs hop
        by_cases o11 : (z.op : Int) = 11
        ·have h11 : z.op = 11 := by omega
         have hda := Zrq Hq3.out h11;obtain ⟨n, hn⟩ : ∃ n, n = (Z7 p ((pts p).take i)).length := ⟨_, rfl⟩
         have Hd2 := hid (show (Z7 p ((pts p).take (i + 1))).length = n + 1 by rw [Hp.out.2, List.length_append, Y4, if_pos h11, hn]; rfl);rw [← hn] at hda hdl ⊢;rw [← HDk.out.1, List.getElem?_map] at hda;obtain ⟨d, hd⟩ : ∃ d, D[n]? = some d := by
          cases hd : D[n]? with
          | none => rw [hd] at hda; cases hda
          | some d => exact ⟨d, rfl⟩
         rw [hd] at hda;simp only [Option.map_some, Option.some.injEq, dkey, Prod.mk.injEq] at hda;obtain ⟨e1, e2, e3⟩ := hda;have hnl := (List.getElem?_eq_some_iff.1 hd).1;obtain ⟨d', gd, offd, hd', rfl, hgd, x0, x1, x2, x3, x4⟩ := HD.out.at_ hnl;obtain rfl : d = d' := by rw [hd] at hd'; injection hd'
         obtain ⟨dp, dA, dc, ds, dd⟩ := d;simp only at e1 e2 e3 x0 x1 x2 x3 x4;subst e1;subst e2;subst e3;rw [List.length_map] at x3;have hlw := Zk (Zc Hg4.out Hg47.out);have x0' := cur hlw hgd x0;have x1' := cur hlw hgd x1;have x2' := cur hlw hgd x2;have x3' := cur hlw hgd x3;have x4' := cur hlw hgd x4;obtain ⟨l0', l1', l2'⟩ := Hl.out W7 Hg47.out;simp only at x0' x1' x2';clear hn hd hd' x0 x1 x2 x3 x4 hlw h11 hwr
         rcases Hdn.out with ⟨g1, g2, g3⟩ | ⟨g1, g2⟩
         ·have hde : z.dst.isEmpty = false := by
           cases hz : z.dst with
           | nil => exact absurd hz g1
           | cons a l => rfl
          have g2' : ¬ (vN p pf z.dst < 0) := by omega
          clear g1 g2 g3;go_upto_region 36 with (fail)
          go_quiet (fail);go_wp2_with fail;go_roundw
          case rel => exact ⟨i + 1, by omega, by rw [Hc1.out], by rw [Hd2.out]; go_num, by go_num, Zi Hg47.out _⟩
          case measure => simp [intOf]; omega
         ·have hde : z.dst.isEmpty = true := by rw [g1]; rfl
          rw [g2] at x4';clear g1 g2;go_upto_region 36 with (fail)
          go_quiet (fail);go_wp2_with fail;go_roundw
          case rel => exact ⟨i + 1, by omega, by rw [Hc1.out], by rw [Hd2.out]; go_num, by go_num, Zi Hg47.out _⟩
          case measure => simp [intOf]; omega
        ·have Hd2 := hid (show Z7 p ((pts p).take (i + 1)) = Z7 p ((pts p).take i) by rw [Hp.out.2, Y4, if_neg (by simp only; omega), List.append_nil]);go_wp2_with fail;go_roundw
         case rel => exact ⟨i + 1, by omega, by rw [Hc1.out], by rw [Hd2.out], by go_num, Hg47.out⟩
         case measure => simp [intOf]; omega
      ·obtain rfl : i = (Zg p p.length).pl.length := by omega
       rw [Hpl.out, List.take_length];have he1 : (Xm 1 R : Int) - (Xm 1 (Yq p (pts p)) : Int) = 0 := by rw [← HDk.out.2.2]; omega
       rw [he1, ← HDk.out.2.1];go_wp2_with (go_at_call 48; refine (Jp _).mono ?_; rintro e w5 ⟨rfl, hg5⟩);go_ret;exact ⟨rfl, Zc Hg3.out (Zc Hg4.out (Zc hg.out hg5))⟩
  ·have hnew := Zud p _ w1 B (HB.out _ hg1) (HP.out _ hg1) hz;go_wp2_with (first | (go_at_call 13; refine hnew.mono ?_; rintro e w2 ⟨rfl, hg2⟩) | (go_at_call 48; refine (Jp _).mono ?_; rintro e w3 ⟨rfl, hg3⟩));go_ret;exact ⟨rfl, Zc HgW.out (Zc hg1 (Zc hg2 hg3))⟩
end Go.Proofs.YtiheiaaifdjpeaaGreat

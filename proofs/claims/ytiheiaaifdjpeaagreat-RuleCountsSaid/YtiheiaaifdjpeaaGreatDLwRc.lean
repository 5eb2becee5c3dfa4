/- The contract of gnomonlaw16.RuleCounts: it answers true. Condition: the program lies in memory. -/
import Derived.Test.YtiheiaaifdjpeaaGreatDLwRz
import Derived.Test.YtiheiaaifdjpeaaGreatDRld
import Derived.Deep.CutRange
set_option linter.unusedVariables false
set_option linter.unusedSimpArgs false
set_option maxHeartbeats 8000000
set_option maxRecDepth 100000
namespace Go.Proofs.YtiheiaaifdjpeaaGreat
open Lib(hid)
open Go.RowKit Go.Shelf
theorem Zum {gw : Nat} {w4 wc : World} {R R' : List GRel} {r : GRel} {k : Nat} {v : Int} (hn : R' = R ++ [r]) (hk : r.kind = k) (h6 : k ≤ 6) (hb : wc.heap[gw]? = some (.cells (Ztr R) 3 (0, 0))) (hv : v = (Xm k R : Int) + 1) (hc : Chg (fun n => n = gw) w4 wc) :
  Hid ((wc.setCell ⟨gw, k, none⟩ (.int .i64 v)).heap[gw]? = some (.cells (Ztr R') 3 (0, 0))) ∧ Hid (Chg (fun n => n = gw) w4 (wc.setCell ⟨gw, k, none⟩ (.int .i64 v))) :=
 ⟨hid (by rw [hn, ← Ztq hk h6 hv]; exact Zs hb k _), hid (hc.trans (Chg.set (Q := fun n => n = gw) wc (p := ⟨gw, k, none⟩) rfl _) (fun _ _ e => e))⟩
theorem Zul {gw : Nat} {wc : World} {R : List GRel} (hb : wc.heap[gw]? = some (.cells (Ztr R) 3 (0, 0))) {k : Nat} (h6 : k ≤ 6) : wc.cell? ⟨gw, k, none⟩ = some (.int .i64 (Xm k R : Nat)) ∧ wc.frozen? ⟨gw, k, none⟩ = false ∧ Xm k R ≤ R.length :=
 ⟨((Za hb).1 k).trans (Zty h6), (Za hb).2 k, Zob k R⟩
def Zun (z : GIns) (A7 : Option Addr) (d7 : Nat) (A8 : Option Addr) (d8 : Nat) : Obj := .cells #[.int .u8 z.op, .string ⟨z.dst.toArray⟩, .string ⟨z.a.toArray⟩, .string ⟨z.b.toArray⟩, .int .i64 z.n, .string ⟨z.fn.toArray⟩, .slice A7 z.args.length d7, .slice A8 z.labels.length d8] 38 (0, 0)
theorem Ztz (p : GProg) (vp : Value) (w : World) (B : Nat) (hB : B ≤ w.heap.size) (h : ProgAt w B vp p) : Calls Tryz.prog 9 #[.agg #[vp]] w fun e w' => e = .returned (.bool true) ∧ w.grownBy w' none := by
 obtain ⟨A, c, rfl, m1, m2, m3, hA⟩ := h.open_;obtain ⟨W, hW⟩ : ∃ W : World, W = w.alloc (.cells #[.slice A p.length c] 24) := ⟨_, rfl⟩
 have hgW : w.grownBy W none := by rw [hW]; exact World.grownBy_alloc _ _ _
 have hb : W.heap[w.heap.size]? = some (.cells #[.slice A p.length c] 24 (0, 0)) := by rw [hW]; exact World.alloc_heap_new _ _
 have HS := hid (show ∀ W', W.grownBy W' none → W'.cell? ⟨w.heap.size, 0, none⟩ = some (.slice A p.length c) from fun W' hg => (World.cell?_of_block (hg.block w.heap.size (Ze hb) (by simp))).trans ((Za hb).1 0));have HP := hid (show ∀ W', W.grownBy W' none → ProgAt W' B (.slice A p.length c) p from fun W' hg => h.below funR.keeps (Zk (Zc hgW hg)) hB);have hBW : ∀ W', W.grownBy W' none → B ≤ W'.heap.size := fun W' hg => by have := hgW.size; have := hg.size; omega
 have HB := hid hBW;have hgr := Zkj p _ W B (HB.out W (World.grownBy.refl _ _)) (HP.out W (World.grownBy.refl _ _));have HgW := hid hgW;have hc := HS.out W (World.grownBy.refl _ _);clear hb hgW hA h hBW;go_enter Tryz.func9, Tryz.ntmps9;go_upto_region 1 with (fail)
 rw [← hW];clear hW;go_upto_if 23 with (go_at_call 47; refine hgr.mono ?_; rintro e w1 ⟨bg, rfl, hg1⟩)
 have hc1 := HS.out w1 hg1
 cases bg with
 | true =>
  go_wp2_with (go_at_call 48; refine (Jp _).mono ?_; rintro e w2 ⟨rfl, hg2⟩);go_ret;exact ⟨rfl, Zc HgW.out (Zc hg1 hg2)⟩
 | false =>
  by_cases hz : (Y9 p).1 = 0
  ·have hN := Zsi hz;have hs := Ztf hz;have hnew := Zom p _ w1 B (HB.out _ hg1) (HP.out _ hg1) (Zoc hN) hz;go_upto_region 6 with (go_at_call 13; refine hnew.mono ?_; rintro e w2 ⟨m, rfl, hM, hg2⟩)
   have hlens := hN.lens (Nat.le_refl p.length) (SLe.refl _);have hfn := hN.funcs;have hro := Zfv hM hs;have hRl := Zfu hN hs (l := pts p) (fun _ h => h) hN.codes;have hDl := Qt p (pts p);have hcd := hN.codes;have hok := Zoq hN (pts p) 0 (fun _ h => h);rw [Nat.zero_add] at hok;have HM := hid (show ∀ W', w2.grownBy W' none → MapL _ W' m p from fun W' hg => hM.grown hg);have HN := hid hN;have Hg2 := hid (Zc HgW.out (Zc hg1 hg2));have Hlens := hid hlens;obtain ⟨R, hR⟩ : ∃ R, R = Yq p (pts p) := ⟨_, rfl⟩
   have Hok := hid (show ∀ r ∈ R, RelOk p (Z7 p (pts p)).length r from fun r hr => hok r (by rw [hR] at hr; exact hr));have Hs := hid hs;rw [← hR] at hro hRl;have HR := hid hR;clear hnew hc hc1 hM hN hgr hz hg2 hg1 HS HP HB hlens hs hok hR;go_upto_region 7 with (go_at_call 49; refine hro.mono ?_; rintro e w3 ⟨vL, vD, D, rfl, hoL, -, -, -, hg3⟩)
   have hrow := Zle hoL;obtain ⟨AL, cL, rfl, -, -, -, -⟩ := Zr hoL;have HL := hid hrow;have hmk : ∀ w : World, (Instr.makeSlice 54 (.int .i64 7) (.int .i64 7)).run Tryz.prog w = .ok (.slice (some ⟨w.heap.size, 0, none⟩) 7 7) (w.alloc (.cells (Array.replicate 7 (.int .i64 0)) 3)) := Zfw 7 (by omega);obtain ⟨wM, hwM⟩ : ∃ wM, wM = w3.alloc (.cells (Ztr []) 3) := ⟨_, rfl⟩
   obtain ⟨gw, hgw⟩ : ∃ gw, gw = w3.heap.size := ⟨_, rfl⟩
   have hbM : wM.heap[gw]? = some (.cells (Ztr []) 3 (0, 0)) := by rw [hwM, hgw]; exact World.alloc_heap_new _ _
   have hgM : w3.grownBy wM none := by rw [hwM]; exact World.grownBy_alloc _ _ _
   have hpt := Zct (HM.out wM (Zc hg3 hgM));have HwM := hid hwM;have Hgw := hid hgw;clear hwM hgw hrow hoL hro;go_upto_region 8 with (fail)
   rw [show w3.alloc (.cells (Array.replicate 7 (.int .i64 0)) 3) = wM from HwM.out.symm, ← Hgw.out];go_upto_region 9 with (go_at_call 15; refine hpt.mono ?_; rintro e w4 ⟨hb3, A3, c3, rfl, hp1, hp2, hp3⟩)
   have hM4 := Zj hb3;have hgwl := Ze hbM
   have HPt := hid (show ∀ i q, (Zg p p.length).pl[i]? = some q → ∃ g, A3 = some ⟨g, 0, none⟩ ∧ gw < g ∧ g < w4.heap.size ∧ ptR w4 wM.heap.size g (i * 3) q from fun i q hq => by
                        rcases hp3 with ⟨_, h0, _⟩ | ⟨g, cur, e, hgl, hgb, hgr⟩
                        ·rw [h0] at hq; simp at hq
                        ·exact ⟨g, e, by omega, Ze hgb, hgr i q hq⟩)
   have HbW := hid ((hM4.block gw hgwl (by simp)).trans hbM);have hg34 := Zc hgM hM4
   have HM4 := hid (show ∀ W', Chg (fun n => n = gw) w4 W' → MapL _ W' m p from fun W' hc => (HM.out w2 (World.grownBy.refl _ _)).chg ((Chg.grown (Q := fun n => n = gw) (Zc hg3 hg34) (fun r e => by cases e)).trans hc (fun _ _ e => e)) (fun n h1 h2 e => by
                                                                                                                                                                                                                                                         have := Hgw.out
                                                                                                                                                                                                                                                         have := hg3.size
                                                                                                                                                                                                                                                         omega))
   have Hg34 := hid hg34;have Hg3 := hid (Zc Hg2.out hg3);have Hgwl := hid hgwl;have hPl : (Zg p p.length).pl.length = (pts p).length := by rw [Q6, List.length_map]
   have Hpl := hid hPl;have hl2 := Hlens.out.2.1;clear hp3 hb3 hpt hM4 hg34 hbM hgM hPl hgwl hmk hDl hg3;go_wp2_with fail;go_loopw [9] (fun s9 wr => ∃ i : Nat, i ≤ (Zg p p.length).pl.length ∧ s9 = .int .i64 i ∧ Hid (wr.heap[gw]? = some (.cells (Ztr (Yq p ((pts p).take i))) 3 (0, 0))) ∧ Hid (Chg (fun n => n = gw) w4 wr)) (fun s9 _ => (Zg p p.length).pl.length - (intOf s9).toNat)
   case atStart => exact ⟨0, Nat.zero_le _, rfl, HbW.out, hid (Chg.refl _ _)⟩
   case round =>
    obtain ⟨i, hi, rfl, hbw, hch⟩ := hrel
    by_cases hil : i < (Zg p p.length).pl.length
    ·obtain ⟨q, hq⟩ : ∃ q, (Zg p p.length).pl[i]? = some q := ⟨_, List.getElem?_eq_getElem hil⟩
     obtain ⟨f, y, z, q3, q4, q5, q6⟩ := Znz hq;obtain ⟨pf, pb, pi⟩ := q;obtain ⟨g, rfl, hg1, hg2, l0, l1, l2⟩ := HPt.out i _ hq;have hgr : wr.heap[g]? = w4.heap[g]? := hch.out.block g hg2 (by omega);have l0' : wr.cell? ⟨g, i * 3, none⟩ = some (.int .i64 pf) := (World.cell?_of_block hgr).trans l0;have l1' : wr.cell? ⟨g, i * 3 + 1, none⟩ = some (.int .i64 pb) := (World.cell?_of_block hgr).trans l1;have l2' : wr.cell? ⟨g, i * 3 + 2, none⟩ = some (.int .i64 pi) := (World.cell?_of_block hgr).trans l2;have hins := Zfk (HM4.out _ hch.out) q4 q5 q6;simp only [insV] at hins;have Hq3 := hid q3;clear q3 q4 q5 q6 hq l0 l1 l2 hgr;go_upto_region 13 with (go_at_call 17; refine hins.mono ?_; rintro e w7 ⟨A7, d7, A8, d8, rfl, hI7, hg7⟩)
     obtain ⟨W7, hW7⟩ : ∃ W7, W7 = w7.alloc (.cells #[.int .u8 z.op, .string ⟨z.dst.toArray⟩, .string ⟨z.a.toArray⟩, .string ⟨z.b.toArray⟩, .int .i64 z.n, .string ⟨z.fn.toArray⟩, .slice A7 z.args.length d7, .slice A8 z.labels.length d8] 38) := ⟨_, rfl⟩
     rw [← hW7];obtain ⟨bz, hbz⟩ : ∃ bz, bz = w7.heap.size := ⟨_, rfl⟩
     rw [← hbz];have hbx := World.alloc_heap_new w7 (.cells #[.int .u8 z.op, .string ⟨z.dst.toArray⟩, .string ⟨z.a.toArray⟩, .string ⟨z.b.toArray⟩, .int .i64 z.n, .string ⟨z.fn.toArray⟩, .slice A7 z.args.length d7, .slice A8 z.labels.length d8] 38);rw [← hW7, ← hbz] at hbx;have hg77 : wr.grownBy W7 none := by rw [hW7]; exact Zd hg7 _
     have hI8 : InsS wr.heap.size W7 z (.slice A7 z.args.length d7) (.slice A8 z.labels.length d8) := fun W' B' hs => hI7 W' B' (hs.chg (Chg.grown (Q := fun _ => False) (by rw [hW7]; exact World.grownBy_alloc _ _ none) (fun r e => by cases e)) (fun _ _ _ e => e))
     have hgwr := Ze hbw.out;have hgb : gw < bz := by have := hg7.size; omega
     have hgz := (hg77.block gw hgwr (by simp)).trans hbw.out;have Hgz := hid hgz;have Hbx := hid hbx;have HI8 := hid hI8;have Hc7 := hid (hch.out.trans (Chg.grown (Q := fun _ => False) hg77 (fun r e => by cases e)) (fun _ _ e => e.elim));have x2 : W7.cell? ⟨bz, 2, none⟩ = some (.string ⟨z.a.toArray⟩) := (Za hbx).1 2;have x3 : W7.cell? ⟨bz, 3, none⟩ = some (.string ⟨z.b.toArray⟩) := (Za hbx).1 3;obtain ⟨hp1, hp2⟩ := Zfr Hq3.out;obtain ⟨Rc, hRc⟩ : ∃ Rc, Rc = Yq p ((pts p).take i) := ⟨_, rfl⟩
     have hRl' : Rc.length ≤ 21000000 := by rw [hRc]; have := Zfu HN.out Hs.out (l := (pts p).take i) (fun q hq => List.mem_of_mem_take hq) (by rw [List.length_take]; omega); omega
     rw [← hRc] at hp1 Hgz;have Hp := hid hp1;clear hW7 hbz hbx hins hI7 hg7 hg77 hI8 hgz hp1 hp2 hRc l0' l1' l2' hbw hch;go_cut [12, 13] from 56 to 71 (fun s12 s13 wx => s12 = .bool (isV z.a) ∧ s13 = .bool (isV z.b) ∧ ∃ k : Nat, wx = W7.drewN k)
     case first =>
      cases ha : z.a.isEmpty <;> cases ha' : z.a == [110, 117, 108, 108] <;> cases hb : z.b.isEmpty <;> cases hb' : z.b == [110, 117, 108, 108] <;> (go_quiet (fail); go_wp2_with fail; go_meet; exact ⟨by simp [isV, nought, ha, ha', hb, hb'], by simp [isV, nought, ha, ha', hb, hb'], _, rfl⟩)
     case rest =>
      obtain ⟨rfl, rfl, k, hwc⟩ := hcut;have hgz : wc.heap[gw]? = some (.cells (Ztr Rc) 3 (0, 0)) := by rw [hwc]; exact Hgz.out
      have hbx : wc.heap[bz]? = some (Zun z A7 d7 A8 d8) := by rw [hwc]; exact Hbx.out
      have Hcc := hid (show Chg (fun n => n = gw) w4 wc by rw [hwc]; exact Hc7.out.trans (Chg.grown (Q := fun _ => False) (Zi (World.grownBy.refl W7 none) k) (fun r e => by cases e)) (fun _ _ e => e.elim));have HIc := hid (show InsS wr.heap.size wc z (.slice A7 z.args.length d7) (.slice A8 z.labels.length d8) by rw [hwc]; exact fun W' B' hs => HI8.out W' B' (hs.chg (Chg.grown (Q := fun _ => False) (Zi (World.grownBy.refl W7 none) k) (fun r e => by cases e)) (fun _ _ _ e => e)));have x0 : wc.cell? ⟨bz, 0, none⟩ = some (.int .u8 z.op) := (Za hbx).1 0;have Hgc := hid hgz;have Hbc := hid hbx;clear hwc hgz hbx x2 x3 Hgz Hbx Hc7 HI8
      by_cases hone : z.op = 1 ∨ z.op = 2 ∨ z.op = 4 ∨ z.op = 5 ∨ z.op = 7 ∨ z.op = 8 ∨ z.op = 9 ∨ z.op = 11
      ·obtain ⟨r, hrk, hri⟩ := ins_one HN.out (Z7 p ((pts p).take i)).length (List.mem_of_getElem? Hq3.out) hone;simp only at hrk hri
       rcases hone with ho | ho | ho | ho | ho | ho | ho | ho
       ·as_aux_lemma =>
         have ho' : (z.op : Int) = 1 := by omega
         have hk' : r.kind = 1 := by rw [hrk, ho]; rfl
         rw [show Ztp z = true by simp [Ztp, ho], if_pos rfl] at hri;have hn : Yq p ((pts p).take (i + 1)) = Rc ++ [r] := by rw [Hp.out, hri]
         have Hn := hid hn;have Hk := hid hk';obtain ⟨c1, c2, hcl⟩ := Zul Hgc.out (k := 1) (by decide);clear hn hk' hrk hri;go_wp2_with fail;go_roundw
         case rel => exact ⟨i + 1, by omega, by go_num, Zum Hn.out Hk.out (by decide) Hgc.out rfl Hcc.out⟩
         case measure => simp [intOf]; omega
       ·as_aux_lemma =>
         have ho' : (z.op : Int) = 2 := by omega
         have hk' : r.kind = 1 := by rw [hrk, ho]; rfl
         rw [show Ztp z = true by simp [Ztp, ho], if_pos rfl] at hri;have hn : Yq p ((pts p).take (i + 1)) = Rc ++ [r] := by rw [Hp.out, hri]
         have Hn := hid hn;have Hk := hid hk';obtain ⟨c1, c2, hcl⟩ := Zul Hgc.out (k := 1) (by decide);clear hn hk' hrk hri;go_wp2_with fail;go_roundw
         case rel => exact ⟨i + 1, by omega, by go_num, Zum Hn.out Hk.out (by decide) Hgc.out rfl Hcc.out⟩
         case measure => simp [intOf]; omega
       ·as_aux_lemma =>
         have ho' : (z.op : Int) = 4 := by omega
         have hk' : r.kind = 1 := by rw [hrk, ho]; rfl
         rw [show Ztp z = true by simp [Ztp, ho], if_pos rfl] at hri;have hn : Yq p ((pts p).take (i + 1)) = Rc ++ [r] := by rw [Hp.out, hri]
         have Hn := hid hn;have Hk := hid hk';obtain ⟨c1, c2, hcl⟩ := Zul Hgc.out (k := 1) (by decide);clear hn hk' hrk hri;go_wp2_with fail;go_roundw
         case rel => exact ⟨i + 1, by omega, by go_num, Zum Hn.out Hk.out (by decide) Hgc.out rfl Hcc.out⟩
         case measure => simp [intOf]; omega
       ·as_aux_lemma =>
         have ho' : (z.op : Int) = 5 := by omega
         have hk' : r.kind = 2 := by rw [hrk, ho]; rfl
         have hcd0 : Ztp z = isV z.a := by simp [Ztp, ho]
         cases hva : isV z.a with
         | true =>
          have Hn := hid (show Yq p ((pts p).take (i + 1)) = Rc ++ [r] by rw [Hp.out, hri, hcd0, hva, if_pos rfl]);have Hk := hid hk';clear hcd0;obtain ⟨c1, c2, hcl⟩ := Zul Hgc.out (k := 2) (by decide);clear hk' hrk hri;go_wp2_with fail;go_roundw
          case rel => exact ⟨i + 1, by omega, by go_num, Zum Hn.out Hk.out (by decide) Hgc.out rfl Hcc.out⟩
          case measure => simp [intOf]; omega
         | false =>
          have Hn := hid (show Yq p ((pts p).take (i + 1)) = Rc by rw [Hp.out, hri, hcd0, hva, if_neg (by simp), List.append_nil]);clear hcd0 hk' hrk hri;go_wp2_with fail;go_roundw
          case rel => exact ⟨i + 1, by omega, by go_num, hid (by rw [Hn.out]; exact Hgc.out), Hcc.out⟩
          case measure => simp [intOf]; omega
       ·as_aux_lemma =>
         have ho' : (z.op : Int) = 7 := by omega
         have hk' : r.kind = 5 := by rw [hrk, ho]; rfl
         have hcd0 : Ztp z = isV z.a := by simp [Ztp, ho]
         cases hva : isV z.a with
         | true =>
          have Hn := hid (show Yq p ((pts p).take (i + 1)) = Rc ++ [r] by rw [Hp.out, hri, hcd0, hva, if_pos rfl]);have Hk := hid hk';clear hcd0;obtain ⟨c1, c2, hcl⟩ := Zul Hgc.out (k := 5) (by decide);clear hk' hrk hri;go_wp2_with fail;go_roundw
          case rel => exact ⟨i + 1, by omega, by go_num, Zum Hn.out Hk.out (by decide) Hgc.out rfl Hcc.out⟩
          case measure => simp [intOf]; omega
         | false =>
          have Hn := hid (show Yq p ((pts p).take (i + 1)) = Rc by rw [Hp.out, hri, hcd0, hva, if_neg (by simp), List.append_nil]);clear hcd0 hk' hrk hri;go_wp2_with fail;go_roundw
          case rel => exact ⟨i + 1, by omega, by go_num, hid (by rw [Hn.out]; exact Hgc.out), Hcc.out⟩
          case measure => simp [intOf]; omega
       ·as_aux_lemma =>
         have ho' : (z.op : Int) = 8 := by omega
         have hk' : r.kind = 3 := by rw [hrk, ho]; rfl
         have hcd0 : Ztp z = isV z.a := by simp [Ztp, ho]
         cases hva : isV z.a with
         | true =>
          have Hn := hid (show Yq p ((pts p).take (i + 1)) = Rc ++ [r] by rw [Hp.out, hri, hcd0, hva, if_pos rfl]);have Hk := hid hk';clear hcd0;obtain ⟨c1, c2, hcl⟩ := Zul Hgc.out (k := 3) (by decide);clear hk' hrk hri;go_wp2_with fail;go_roundw
          case rel => exact ⟨i + 1, by omega, by go_num, Zum Hn.out Hk.out (by decide) Hgc.out rfl Hcc.out⟩
          case measure => simp [intOf]; omega
         | false =>
          have Hn := hid (show Yq p ((pts p).take (i + 1)) = Rc by rw [Hp.out, hri, hcd0, hva, if_neg (by simp), List.append_nil]);clear hcd0 hk' hrk hri;go_wp2_with fail;go_roundw
          case rel => exact ⟨i + 1, by omega, by go_num, hid (by rw [Hn.out]; exact Hgc.out), Hcc.out⟩
          case measure => simp [intOf]; omega
       ·as_aux_lemma =>
         have ho' : (z.op : Int) = 9 := by omega
         have hk' : r.kind = 4 := by rw [hrk, ho]; rfl
         have hcd0 : Ztp z = (isV z.a && isV z.b) := by simp [Ztp, ho]
         cases hva : isV z.a with
         | true =>
          cases hvb : isV z.b with
          | true =>
           have hcd : Ztp z = true := by rw [hcd0, hva, hvb]; rfl
           clear hcd0;have hn : Yq p ((pts p).take (i + 1)) = Rc ++ [r] := by rw [Hp.out, hri, hcd, if_pos rfl]
           have Hn := hid hn;have Hk := hid hk';obtain ⟨c1, c2, hcl⟩ := Zul Hgc.out (k := 4) (by decide);clear hn hk' hrk hri;go_wp2_with fail;go_roundw
           case rel => exact ⟨i + 1, by omega, by go_num, Zum Hn.out Hk.out (by decide) Hgc.out rfl Hcc.out⟩
           case measure => simp [intOf]; omega
          | false =>
           have hcd : Ztp z = false := by rw [hcd0, hva, hvb]; rfl
           clear hcd0;have Hn := hid (show Yq p ((pts p).take (i + 1)) = Rc by rw [Hp.out, hri, hcd, if_neg (by simp), List.append_nil]);clear hk' hrk hri;go_wp2_with fail;go_roundw
           case rel => exact ⟨i + 1, by omega, by go_num, hid (by rw [Hn.out]; exact Hgc.out), Hcc.out⟩
           case measure => simp [intOf]; omega
         | false =>
          have hcd : Ztp z = false := by rw [hcd0, hva]; rfl
          clear hcd0;have Hn := hid (show Yq p ((pts p).take (i + 1)) = Rc by rw [Hp.out, hri, hcd, if_neg (by simp), List.append_nil]);clear hk' hrk hri;go_wp2_with fail;go_roundw
          case rel => exact ⟨i + 1, by omega, by go_num, hid (by rw [Hn.out]; exact Hgc.out), Hcc.out⟩
          case measure => simp [intOf]; omega
       ·as_aux_lemma =>
         have ho' : (z.op : Int) = 11 := by omega
         have hk' : r.kind = 6 := by rw [hrk, ho]; rfl
         have hcd0 : Ztp z = isV z.a := by simp [Ztp, ho]
         cases hva : isV z.a with
         | true =>
          have Hn := hid (show Yq p ((pts p).take (i + 1)) = Rc ++ [r] by rw [Hp.out, hri, hcd0, hva, if_pos rfl]);have Hk := hid hk';clear hcd0;obtain ⟨c1, c2, hcl⟩ := Zul Hgc.out (k := 6) (by decide);clear hk' hrk hri;go_wp2_with fail;go_roundw
          case rel => exact ⟨i + 1, by omega, by go_num, Zum Hn.out Hk.out (by decide) Hgc.out rfl Hcc.out⟩
          case measure => simp [intOf]; omega
         | false =>
          have Hn := hid (show Yq p ((pts p).take (i + 1)) = Rc by rw [Hp.out, hri, hcd0, hva, if_neg (by simp), List.append_nil]);clear hcd0 hk' hrk hri;go_wp2_with fail;go_roundw
          case rel => exact ⟨i + 1, by omega, by go_num, hid (by rw [Hn.out]; exact Hgc.out), Hcc.out⟩
          case measure => simp [intOf]; omega
      ·by_cases h6 : z.op = 6
       ·as_aux_lemma =>
         have ho' : (z.op : Int) = 6 := by omega
         obtain ⟨f, y, q4, q5, q6⟩ := Xn (List.mem_of_getElem? Hq3.out);have hda := ((Zof HN.out q4 q5 q6).resolve_right (fun e => HN.out.dst_ne q4 q5 q6 (by omega) e.1)).2.1;have Hone := hid (fun (s : Str) (hs : s ∈ z.args) => Ztx HN.out q4 q5 q6 (.inl h6) hs hda);have hal := Zlb HN.out Hs.out q4 q5 q6 h6;have hri : Y7 p (Z7 p ((pts p).take i)).length ((pf, pb, pi), z) = z.args.flatMap fun s => Xd (vN p pf z.dst) (vN p pf s) := by simp [Y7, h6]
         have Hri := hid hri;have Hgw2 := hid (And.intro hgb hgwr);simp only at Hone hal;clear hone h6 q4 q5 q6 hda hri;go_upto_region 23 with fail;clear x0;go_wp2_with fail;go_loopw [14] (fun s14 wi => ∃ j : Nat, j ≤ z.args.length ∧ s14 = .int .i64 j ∧ Hid (wi.heap[gw]? = some (.cells (Ztr (Rc ++ (z.args.take j).flatMap fun s => Xd (vN p pf z.dst) (vN p pf s))) 3 (0, 0))) ∧ Hid (Chg (fun n => n = gw) wc wi)) (fun s14 _ => z.args.length - (intOf s14).toNat)
         case atStart => exact ⟨0, Nat.zero_le _, rfl, hid (by simpa using Hgc.out), hid (Chg.refl _ _)⟩
         case round =>
          obtain ⟨j, hj, rfl, hbj, hcj⟩ := hrel;have x6 : wr.cell? ⟨bz, 6, none⟩ = some (.slice A7 z.args.length d7) := (World.cell?_of_block (hcj.out.block bz (Ze Hbc.out) (by have := Hgw2.out; omega))).trans ((Za Hbc.out).1 6)
          by_cases hjl : j < z.args.length
          ·have hia := HIc.out wr wr.heap.size (fun n h1 h2 => ⟨Nat.lt_of_lt_of_le h2 hcj.out.size, hcj.out.block n h2 (by have := Hgw2.out; omega)⟩);obtain ⟨s, ga, offa, hs, rfl, hgl, hsc, -⟩ := hia.args.at_ hjl;rw [Nat.mul_one] at hsc;have Hm := hid (Ziv (fun s => Xd (vN p pf z.dst) (vN p pf s)) hs);have h1 := Hone.out s (List.mem_of_getElem? hs);have hfl := Zag (fun s => Xd (vN p pf z.dst) (vN p pf s)) (fun _ => U5 _ _) (z.args.take j);rw [List.length_take] at hfl;have hcl := Zob 2 (Rc ++ (z.args.take j).flatMap fun s => Xd (vN p pf z.dst) (vN p pf s));rw [List.length_append] at hcl;clear hia hs
           cases hsn : s == [110, 117, 108, 108] with
           | true =>
            rw [show (s == nought) = true from hsn, if_pos rfl] at h1;have H1 := hid h1;clear h1 hfl hcl;go_wp2_with fail;go_roundw
            case rel => exact ⟨j + 1, by omega, by go_num, hid (by rw [Hm.out, H1.out, List.append_nil]; exact hbj.out), hcj⟩
            case measure => simp [intOf]; omega
           | false =>
            rw [show (s == nought) = false from hsn, if_neg (by simp)] at h1;have H1 := hid h1;have c1 : wr.cell? ⟨gw, 2, none⟩ = some (.int .i64 (Xm 2 (Rc ++ (z.args.take j).flatMap fun s => Xd (vN p pf z.dst) (vN p pf s)) : Nat)) := (Za hbj.out).1 2;have c2 : wr.frozen? ⟨gw, 2, none⟩ = false := (Za hbj.out).2 2;clear h1;go_wp2_with fail;go_roundw
            case rel => exact ⟨j + 1, by omega, by go_num, hid (by rw [Hm.out, H1.out, ← List.append_assoc, ← Ztq (r := ⟨2, vN p pf z.dst, vN p pf s, 0⟩) rfl (by simp) rfl]; exact Zs hbj.out 2 _), hid (hcj.out.trans (Chg.set (Q := fun n => n = gw) wr (p := ⟨gw, 2, none⟩) rfl _) (fun _ _ e => e))⟩
            case measure => simp [intOf]; omega
          ·obtain rfl : j = z.args.length := by omega
           rw [List.take_length] at hbj;go_wp2;go_roundw
           case rel => exact ⟨i + 1, by omega, by go_num, hid (by rw [Hp.out, Hri.out]; exact hbj.out), hid (Hcc.out.trans hcj.out (fun _ _ e => e))⟩
           case measure => simp [intOf]; omega
       ·by_cases h10 : z.op = 10
        ·as_aux_lemma =>
         have ho' : (z.op : Int) = 10 := by omega
         obtain ⟨f, y, q4, q5, q6⟩ := Xn (List.mem_of_getElem? Hq3.out);obtain ⟨gf, hgf, hal⟩ := Zac HN.out q4 q5 q6 h10;have hpb := HN.out.params hgf;have hpo := Q1 HN.out hgf;obtain ⟨fi, hfi⟩ : ∃ fi, fi = ixK (Zv p p.length) z.fn := ⟨_, rfl⟩
         obtain ⟨pl, hpl⟩ : ∃ pl, pl = gf.params.map fun s => (Zg p p.length).vars.idxOf (fi, s) := ⟨_, rfl⟩
         obtain ⟨rl, hrl⟩ : ∃ rl, rl = Xv p fi (pts [gf]) := ⟨_, rfl⟩
         have hpn : pl.length = z.args.length := by rw [hpl, List.length_map, hal]
         have hrb : rl.length ≤ 5000 := by rw [hrl]; have := Zcd p fi (pts [gf]); omega
         have hri : Y7 p (Z7 p ((pts p).take i)).length ((pf, pb, pi), z) = ((pl.zip z.args).flatMap fun q => Xd ((q.1 : Nat) : Int) (vN p pf q.2)) ++ rl.flatMap fun r => Xd (vN p pf z.dst) r := by
          unfold Y7;simp only [h10, hgf];rw [hpl, hrl, hfi];rfl
         have Hone := hid (fun (s : Str) (hs : s ∈ z.args) (a : Nat) => Ztx HN.out q4 q5 q6 (.inr h10) hs (a := (a : Int)) (by omega));have Hlm := hid (show ∀ r ∈ rl, -1 ≤ r ∧ r ≤ 1000000 by rw [hrl]; exact Zqq HN.out fi (pts [gf]));have Hdn := hid (Zof HN.out q4 q5 q6);have Hri := hid hri;have Hgw2 := hid (And.intro hgb hgwr);have Hf := hid (fun (W' : World) (hc : Chg (fun n => n = gw) w4 W') => Zhq (HM4.out W' hc) z.fn);rw [← hfi] at Hf hgf;have Hre := hid (fun (W' : World) (hc : Chg (fun n => n = gw) w4 W') => Zqc (HM4.out W' hc) hgf);rw [← hrl] at Hre;have hal8 : z.args.length ≤ 8 := by omega
         have Hpn := hid hpn;clear hone h6 h10 q4 q5 q6 hri hfi hpl hrl hgf hal hpb hpo hpn;go_upto_region 41 with fail;clear x0;go_wp2_with fail;go_loopw [15] (fun s15 wi => ∃ j : Nat, j ≤ z.args.length ∧ s15 = .int .i64 j ∧ Hid (wi.heap[gw]? = some (.cells (Ztr (Rc ++ ((pl.zip z.args).take j).flatMap fun q => Xd ((q.1 : Nat) : Int) (vN p pf q.2))) 3 (0, 0))) ∧ Hid (Chg (fun n => n = gw) wc wi)) (fun s15 _ => z.args.length - (intOf s15).toNat)
         case atStart => exact ⟨0, Nat.zero_le _, rfl, hid (by simpa using Hgc.out), hid (Chg.refl _ _)⟩
         case round =>
          obtain ⟨j, hj, rfl, hbj, hcj⟩ := hrel;have hbx : wr.heap[bz]? = some (Zun z A7 d7 A8 d8) := (hcj.out.block bz (Ze Hbc.out) (by have := Hgw2.out; omega)).trans Hbc.out;have x6 : wr.cell? ⟨bz, 6, none⟩ = some (.slice A7 z.args.length d7) := (Za hbx).1 6;have x5 : wr.cell? ⟨bz, 5, none⟩ = some (.string ⟨z.fn.toArray⟩) := (Za hbx).1 5;have Hbr := hid hbx;clear hbx
          by_cases hjl : j < z.args.length
          ·have hia := HIc.out wr wr.heap.size (fun n h1 h2 => ⟨Nat.lt_of_lt_of_le h2 hcj.out.size, hcj.out.block n h2 (by have := Hgw2.out; omega)⟩);obtain ⟨s, ga, offa, hs, rfl, hgl, hsc, -⟩ := hia.args.at_ hjl;rw [Nat.mul_one] at hsc;obtain ⟨yn, hyn⟩ : ∃ yn, pl[j]? = some yn := ⟨_, List.getElem?_eq_getElem (by have := Hpn.out; omega)⟩
           have hzip : (pl.zip z.args)[j]? = some (yn, s) := by rw [List.getElem?_zip_eq_some]; exact ⟨hyn, hs⟩
           have Hm := hid (Ziv (fun q : Nat × Str => Xd ((q.1 : Nat) : Int) (vN p pf q.2)) hzip);have h1 := Hone.out s (List.mem_of_getElem? hs) yn;have hfl := Zag (fun q : Nat × Str => Xd ((q.1 : Nat) : Int) (vN p pf q.2)) (fun _ => U5 _ _) ((pl.zip z.args).take j);rw [List.length_take] at hfl;have hcl := Zob 2 (Rc ++ ((pl.zip z.args).take j).flatMap fun q => Xd ((q.1 : Nat) : Int) (vN p pf q.2));rw [List.length_append] at hcl;clear hia hs hyn hzip x5
           cases hsn : s == [110, 117, 108, 108] with
           | true =>
            rw [show (s == nought) = true from hsn, if_pos rfl] at h1;have H1 := hid h1;clear h1 hfl hcl;go_wp2_with fail;go_roundw
            case rel => exact ⟨j + 1, by omega, by go_num, hid (by rw [Hm.out, H1.out, List.append_nil]; exact hbj.out), hcj⟩
            case measure => simp [intOf]; omega
           | false =>
            rw [show (s == nought) = false from hsn, if_neg (by simp)] at h1;have H1 := hid h1;have c1 : wr.cell? ⟨gw, 2, none⟩ = some (.int .i64 (Xm 2 (Rc ++ ((pl.zip z.args).take j).flatMap fun q => Xd ((q.1 : Nat) : Int) (vN p pf q.2)) : Nat)) := (Za hbj.out).1 2;have c2 : wr.frozen? ⟨gw, 2, none⟩ = false := (Za hbj.out).2 2;clear h1;go_wp2_with fail;go_roundw
            case rel => exact ⟨j + 1, by omega, by go_num, hid (by rw [Hm.out, H1.out, ← List.append_assoc, ← Ztq (r := ⟨2, yn, vN p pf s, 0⟩) rfl (by simp) rfl]; exact Zs hbj.out 2 _), hid (hcj.out.trans (Chg.set (Q := fun n => n = gw) wr (p := ⟨gw, 2, none⟩) rfl _) (fun _ _ e => e))⟩
            case measure => simp [intOf]; omega
          ·obtain rfl : j = z.args.length := by omega
           rw [List.take_of_length_le (by rw [List.length_zip]; omega)] at hbj;have Hcr := hid (Hcc.out.trans hcj.out (fun _ _ e => e));have hf1 := Hf.out wr Hcr.out;have Hbj := hid hbj.out;have Hcj := hid hcj.out;clear hj hjl hbj hcj;go_upto_region 47 with (go_at_call 26; refine hf1.mono ?_; rintro e wf ⟨rfl, hgf1⟩)
           have Hcf := hid (Hcr.out.trans (Chg.grown (Q := fun _ => False) hgf1 (fun r e => by cases e)) (fun _ _ e => e.elim));have hr1 := Hre.out wf Hcf.out;have Hgf1 := hid hgf1;clear hf1 hgf1 x5 x6;go_upto_region 48 with (go_at_call 45; refine hr1.mono ?_; rintro e wt ⟨v, rfl, hor, hgr⟩)
           have hrow := Zor hor (fun y hy => by have := Hlm.out y hy; omega);obtain ⟨Ar, cr, rfl, -, -, -, -⟩ := Zr hor;have Hrow := hid hrow;have hgrt := Zc Hgf1.out hgr;have hgwl' := Ze Hbj.out;have Hbt := hid ((hgrt.block gw hgwl' (by simp)).trans Hbj.out);have Hbz := hid ((hgrt.block bz (Ze Hbr.out) (by simp)).trans Hbr.out);have Hct := hid (Hcr.out.trans (Chg.grown (Q := fun _ => False) hgrt (fun r e => by cases e)) (fun _ _ e => e.elim));have Hlow := hid (show ∀ g, Value.ownBlock (.slice Ar rl.length cr) = some g → gw < g from fun g e => by have := (hor.lt g e).1; have := Hgf1.out.size; omega);clear hr1 hrow hor hgr hgrt hgwl';obtain ⟨R2, hR2⟩ : ∃ R2, R2 = Rc ++ (pl.zip z.args).flatMap fun q => Xd ((q.1 : Nat) : Int) (vN p pf q.2) := ⟨_, rfl⟩
           have hl2' : R2.length ≤ 21000008 := by
            have := Zag (fun q : Nat × Str => Xd ((q.1 : Nat) : Int) (vN p pf q.2)) (fun _ => U5 _ _) (pl.zip z.args);rw [List.length_zip] at this;rw [hR2, List.length_append];omega
           rw [← hR2] at Hbt;have HR2 := hid hR2;clear hR2;go_wp2_with fail
           cases hd : z.dst.isEmpty with
           | true =>
            have Hd0 := hid (show rl.flatMap (fun r => Xd (vN p pf z.dst) r) = [] by
                                 rcases Hdn.out with h | h
                                 ·exact absurd (List.isEmpty_iff.1 hd) h.1
                                 ·rw [h.2]
                                  exact List.flatMap_eq_nil_iff.2 fun r _ => Ztt (x := -1) (by simp) (by omega))
            have Hbz' := hid (show wt.cell? ⟨bz, 1, none⟩ = some (.string ⟨z.dst.toArray⟩) from (Za Hbz.out).1 1);go_loopw [19] (fun s19 wi => s19 = .int .i64 0 ∧ Hid (wi = wt)) (fun s19 _ => 0)
            case atStart => exact ⟨rfl, hid rfl⟩
            case round =>
             obtain ⟨rfl, hwi⟩ := hrel;obtain rfl := hwi.out;have x1 := Hbz'.out
             by_cases hr0 : 0 < rl.length
             ·go_wp2_with fail;go_roundw
              case rel => exact ⟨i + 1, by omega, by go_num, hid (by rw [Hp.out, Hri.out, Hd0.out, List.append_nil, ← HR2.out]; exact Hbt.out), Hct⟩
              case measure => simp [intOf]; omega
             ·go_wp2_with fail;go_roundw
              case rel => exact ⟨i + 1, by omega, by go_num, hid (by rw [Hp.out, Hri.out, Hd0.out, List.append_nil, ← HR2.out]; exact Hbt.out), Hct⟩
              case measure => simp [intOf]; omega
           | false =>
            have Hda := hid (show 0 ≤ vN p pf z.dst by
                                 rcases Hdn.out with h | h
                                 ·exact h.2.1
                                 ·rw [h.1] at hd; cases hd)
            go_loopw [19] (fun s19 wi => ∃ j : Nat, j ≤ rl.length ∧ s19 = .int .i64 j ∧ Hid (wi.heap[gw]? = some (.cells (Ztr (R2 ++ (rl.take j).flatMap fun r => Xd (vN p pf z.dst) r)) 3 (0, 0))) ∧ Hid (Chg (fun n => n = gw) wt wi)) (fun s19 _ => rl.length - (intOf s19).toNat)
            case atStart => exact ⟨0, Nat.zero_le _, rfl, hid (by simpa using Hbt.out), hid (Chg.refl _ _)⟩
            case round =>
             obtain ⟨j, hj, rfl, hbj, hcj⟩ := hrel;have x1 : wr.cell? ⟨bz, 1, none⟩ = some (.string ⟨z.dst.toArray⟩) := (World.cell?_of_block (hcj.out.block bz (Ze Hbz.out) (by have := Hgw2.out; omega))).trans ((Za Hbz.out).1 1)
             by_cases hjl : j < rl.length
             ·obtain ⟨r, g2, off2, hr, rfl, hg2l, hrc, -⟩ := Hrow.out.at_ hjl;rw [Nat.mul_one] at hrc;have hrc' : wr.cell? ⟨g2, off2 + j, none⟩ = some (.int .i64 r) := (World.cell?_of_block (hcj.out.block g2 hg2l (by have := Hlow.out g2 rfl; omega))).trans hrc;have Hm := hid (Ziv (fun r : Int => Xd (vN p pf z.dst) r) hr);have hrl1 := Hlm.out r (List.mem_of_getElem? hr);have hfl := Zag (fun r : Int => Xd (vN p pf z.dst) r) (fun _ => U5 _ _) (rl.take j);rw [List.length_take] at hfl;have hcl := Zob 2 (R2 ++ (rl.take j).flatMap fun r => Xd (vN p pf z.dst) r);rw [List.length_append] at hcl;clear hr hrc
              by_cases hr0 : 0 ≤ r
              ·have H1 := hid (show Xd (vN p pf z.dst) r = [⟨2, vN p pf z.dst, r, 0⟩] from Zsy (fun z hz => by
                                                                                                            simp only [List.mem_cons, List.not_mem_nil, or_false] at hz
                                                                                                            rcases hz with rfl | rfl
                                                                                                            ·exact Hda.out
                                                                                                            ·exact hr0))
               have c1 : wr.cell? ⟨gw, 2, none⟩ = some (.int .i64 (Xm 2 (R2 ++ (rl.take j).flatMap fun r => Xd (vN p pf z.dst) r) : Nat)) := (Za hbj.out).1 2;have c2 : wr.frozen? ⟨gw, 2, none⟩ = false := (Za hbj.out).2 2;go_wp2_with fail;go_roundw
               case rel => exact ⟨j + 1, by omega, by go_num, hid (by rw [Hm.out, H1.out, ← List.append_assoc, ← Ztq (r := ⟨2, vN p pf z.dst, r, 0⟩) rfl (by simp) rfl]; exact Zs hbj.out 2 _), hid (hcj.out.trans (Chg.set (Q := fun n => n = gw) wr (p := ⟨gw, 2, none⟩) rfl _) (fun _ _ e => e))⟩
               case measure => simp [intOf]; omega
              ·have H1 := hid (show Xd (vN p pf z.dst) r = [] from Ztt (x := r) (by simp) (by omega));clear hcl hfl;go_wp2_with fail;go_roundw
               case rel => exact ⟨j + 1, by omega, by go_num, hid (by rw [Hm.out, H1.out, List.append_nil]; exact hbj.out), hcj⟩
               case measure => simp [intOf]; omega
             ·obtain rfl : j = rl.length := by omega
              rw [List.take_length] at hbj;go_wp2_with fail;go_roundw
              case rel => exact ⟨i + 1, by omega, by go_num, hid (by rw [Hp.out, Hri.out, ← List.append_assoc, ← HR2.out]; exact hbj.out), hid (Hct.out.trans hcj.out (fun _ _ e => e))⟩
              case measure => simp [intOf]; omega
        ·as_aux_lemma =>
          have hno : Zkm z.op = false := by
           cases hd : Zkm z.op with
           | false => rfl
           | true => have := Zep hd; omega
          have Hn := hid (show Yq p ((pts p).take (i + 1)) = Rc by rw [Hp.out, (Znc (q := ((pf, pb, pi), z)) hno).1, List.append_nil]);have o1 : ¬ ((z.op : Int) = 1) := by omega
          have o2 : ¬ ((z.op : Int) = 2) := by omega
          have o4 : ¬ ((z.op : Int) = 4) := by omega
          have o5 : ¬ ((z.op : Int) = 5) := by omega
          have o6 : ¬ ((z.op : Int) = 6) := by omega
          have o7 : ¬ ((z.op : Int) = 7) := by omega
          have o8 : ¬ ((z.op : Int) = 8) := by omega
          have o9 : ¬ ((z.op : Int) = 9) := by omega
          have o10 : ¬ ((z.op : Int) = 10) := by omega
          have o11 : ¬ ((z.op : Int) = 11) := by omega
          clear hone h6 h10 hno;go_wp2_with fail;go_roundw
          case rel => exact ⟨i + 1, by omega, by go_num, hid (by rw [Hn.out]; exact Hgc.out), Hcc.out⟩
          case measure => simp [intOf]; omega
    ·obtain rfl : i = (Zg p p.length).pl.length := by omega
     rw [Hpl.out, List.take_length, ← HR.out] at hbw;have hkb : ∀ r ∈ R, 1 ≤ r.kind ∧ r.kind ≤ 6 := fun r hr => (Hok.out r hr).k0
     have Hkb := hid hkb;have Hbw := hid hbw.out;have Hch := hid hch.out;clear hbw hch hkb hi hil;go_wp2_with fail;go_loopw [20] (fun s20 wi => ∃ i : Nat, i ≤ R.length ∧ s20 = .int .i64 i ∧ Hid (wi.heap[gw]? = some (.cells (Ztr (R.drop i)) 3 (0, 0))) ∧ Hid (Chg (fun n => n = gw) w4 wi)) (fun s20 _ => R.length - (intOf s20).toNat)
     case atStart => exact ⟨0, Nat.zero_le _, rfl, hid (by rw [List.drop_zero]; exact Hbw.out), Hch⟩
     case round =>
      obtain ⟨i, hi, rfl, hbi, hci⟩ := hrel
      by_cases hil : i < R.length
      ·obtain ⟨r, g, off, hr, rfl, hgl, r0, -, -, -⟩ := HL.out.at_ hil;have hgb : wr.heap[g]? = w3.heap[g]? := (hci.out.block g (by have := Hg34.out.size; omega) (by have := Hgw.out; omega)).trans (Hg34.out.block g hgl (by simp));have r0' : wr.cell? ⟨g, off + i * 4, none⟩ = some (.int .u8 r.kind) := (World.cell?_of_block hgb).trans r0;have hkd := Hkb.out r (List.mem_of_getElem? hr);have hdr : R.drop i = r :: R.drop (i + 1) := by
        rw [List.drop_eq_getElem_cons hil]
        congr 1
        rw [List.getElem?_eq_getElem hil] at hr;injection hr
       have hbi' := hbi.out;rw [hdr] at hbi';have c1 : wr.cell? ⟨gw, r.kind, none⟩ = some (.int .i64 (Xm r.kind (r :: R.drop (i + 1)) : Nat)) := ((Za hbi').1 r.kind).trans (Zty (by omega));have c2 : wr.frozen? ⟨gw, r.kind, none⟩ = false := (Za hbi').2 r.kind;have hcl := Zob r.kind (r :: R.drop (i + 1));rw [List.length_cons, List.length_drop] at hcl;have Hbi := hid hbi';clear hbi hbi' hdr hgb r0 hr;go_wp2_with fail;go_roundw
       case rel => exact ⟨i + 1, by omega, by go_num, hid (by rw [← Zuk (r := r) (by omega) rfl]; exact Zs Hbi.out r.kind _), hid (hci.out.trans (Chg.set (Q := fun n => n = gw) wr (p := ⟨gw, r.kind, none⟩) rfl _) (fun _ _ e => e))⟩
       case measure => simp [intOf]; omega
      ·obtain rfl : i = R.length := by omega
       rw [List.drop_length] at hbi;have Hbi := hid hbi.out;have Hci := hid hci.out;clear hi hil hbi hci;go_wp2_with fail;go_loopw [21] (fun s21 wi => ∃ i : Nat, i ≤ 7 ∧ s21 = .int .i64 i ∧ Hid (wi = wr)) (fun s21 _ => 7 - (intOf s21).toNat)
       case atStart => exact ⟨0, Nat.zero_le _, rfl, hid rfl⟩
       case round =>
        obtain ⟨i, hi, rfl, hwi⟩ := hrel;obtain rfl := hwi.out
        by_cases hil : i < 7
        ·have c1 : wr.cell? ⟨gw, i, none⟩ = some (.int .i64 0) := ((Za Hbi.out).1 i).trans (Zty (R := []) (by omega));go_wp2_with fail;go_roundw
         case rel => exact ⟨i + 1, by omega, by go_num, by first | exact hid rfl | exact hid trivial⟩
         case measure => simp [intOf]; omega
        ·obtain rfl : i = 7 := by omega
         go_wp2_with (go_at_call 48; refine (Jp _).mono ?_; rintro e w5 ⟨rfl, hg5⟩);go_ret;exact ⟨rfl, Zc (Chg.after (Zc Hg3.out Hg34.out) Hci.out (fun n hn e => by have := Hgw.out; have := Hg3.out.size; omega)) hg5⟩
  ·have hnew := Zud p _ w1 B (HB.out _ hg1) (HP.out _ hg1) hz;go_wp2_with (first | (go_at_call 13; refine hnew.mono ?_; rintro e w2 ⟨rfl, hg2⟩) | (go_at_call 48; refine (Jp _).mono ?_; rintro e w3 ⟨rfl, hg3⟩));go_ret;exact ⟨rfl, Zc HgW.out (Zc hg1 (Zc hg2 hg3))⟩
end Go.Proofs.YtiheiaaifdjpeaaGreat

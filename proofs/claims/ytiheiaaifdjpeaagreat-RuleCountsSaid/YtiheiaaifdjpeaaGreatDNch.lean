/- The contract of names.First, for the rules of names. Condition: the program lies in memory. -/
import Derived.Test.YtiheiaaifdjpeaaGreatDNam6
import Derived.Test.YtiheiaaifdjpeaaGreatDNam9
import Derived.Test.YtiheiaaifdjpeaaGreatDNam10
import Derived.Test.YtiheiaaifdjpeaaGreatDNam11
set_option linter.unusedVariables false
set_option linter.unusedSimpArgs false
set_option maxHeartbeats 4000000
set_option maxRecDepth 100000
namespace Go.Proofs.YtiheiaaifdjpeaaGreat
open Lib(hid)
open Go.RowKit
def Zfi : Nat → Nat
 | 1 => 113
 | 2 => 114
 | 3 => 115
 | 4 => 116
 | 5 => 117
 | 6 => 118
 | 7 => 119
 | 8 => 120
 | 9 => 121
 | 10 => 122
 | 11 => 123
 | 12 => 124
 | 13 => 125
 | 14 => 126
 | 15 => 127
 | 16 => 128
 | _ => 0
def Zbg (ptr : Value) : List (Int × Value) := [((1 : Int), Value.func (.func 113) #[ptr] #[]), ((2 : Int), Value.func (.func 114) #[ptr] #[]), ((3 : Int), Value.func (.func 115) #[ptr] #[]), ((4 : Int), Value.func (.func 116) #[ptr] #[]), ((5 : Int), Value.func (.func 117) #[ptr] #[]), ((6 : Int), Value.func (.func 118) #[ptr] #[]), ((7 : Int), Value.func (.func 119) #[ptr] #[]), ((8 : Int), Value.func (.func 120) #[ptr] #[]), ((9 : Int), Value.func (.func 121) #[ptr] #[]), ((10 : Int), Value.func (.func 122) #[ptr] #[]), ((11 : Int), Value.func (.func 123) #[ptr] #[]), ((12 : Int), Value.func (.func 124) #[ptr] #[]), ((13 : Int), Value.func (.func 125) #[ptr] #[]), ((14 : Int), Value.func (.func 126) #[ptr] #[]), ((15 : Int), Value.func (.func 127) #[ptr] #[]), ((16 : Int), Value.func (.func 128) #[ptr] #[])]
theorem Zoz (ptr : Value) (r : Nat) (h1 : 1 ≤ r) (h2 : r ≤ 16) : Ys (Zbg ptr) (r : Int) = some (.func (.func (Zfi r)) #[ptr] #[]) := by
 match r, h1, h2 with
 | 1, _, _ => rfl
 | 2, _, _ => rfl
 | 3, _, _ => rfl
 | 4, _, _ => rfl
 | 5, _, _ => rfl
 | 6, _, _ => rfl
 | 7, _, _ => rfl
 | 8, _, _ => rfl
 | 9, _, _ => rfl
 | 10, _, _ => rfl
 | 11, _, _ => rfl
 | 12, _, _ => rfl
 | 13, _, _ => rfl
 | 14, _, _ => rfl
 | 15, _, _ => rfl
 | 16, _, _ => rfl
 | n + 17, _, h => omega
theorem Zkf (r : Nat) (h1 : 1 ≤ r) (h2 : r ≤ 16) : ∀ args w, (callFunc (Zfi r) args).run Tryz.prog w = .ok (.enter (Zfi r) args) w := by
 match r, h1, h2 with
 | 1, _, _ => exact enters_of Tryz.func113 (by kernel_rfl) rfl
 | 2, _, _ => exact enters_of Tryz.func114 (by kernel_rfl) rfl
 | 3, _, _ => exact enters_of Tryz.func115 (by kernel_rfl) rfl
 | 4, _, _ => exact enters_of Tryz.func116 (by kernel_rfl) rfl
 | 5, _, _ => exact enters_of Tryz.func117 (by kernel_rfl) rfl
 | 6, _, _ => exact enters_of Tryz.func118 (by kernel_rfl) rfl
 | 7, _, _ => exact enters_of Tryz.func119 (by kernel_rfl) rfl
 | 8, _, _ => exact enters_of Tryz.func120 (by kernel_rfl) rfl
 | 9, _, _ => exact enters_of Tryz.func121 (by kernel_rfl) rfl
 | 10, _, _ => exact enters_of Tryz.func122 (by kernel_rfl) rfl
 | 11, _, _ => exact enters_of Tryz.func123 (by kernel_rfl) rfl
 | 12, _, _ => exact enters_of Tryz.func124 (by kernel_rfl) rfl
 | 13, _, _ => exact enters_of Tryz.func125 (by kernel_rfl) rfl
 | 14, _, _ => exact enters_of Tryz.func126 (by kernel_rfl) rfl
 | 15, _, _ => exact enters_of Tryz.func127 (by kernel_rfl) rfl
 | 16, _, _ => exact enters_of Tryz.func128 (by kernel_rfl) rfl
 | n + 17, _, h => omega
theorem Zsg (r : Nat) (h1 : 1 ≤ r) (h2 : r ≤ 16) (p : GProg) (vp : Value) (B wb mb : Nat) (w : World) (hB : B ≤ w.heap.size) (h : WalkAt w B wb p vp (.map (some mb))) (hmb : w.heap[mb]? = some shapeObj) :
  Calls Tryz.prog (Zfi r) #[.pointer (some ⟨wb, 0, none⟩)] w fun e w' => e = .returned (ptV (Vd p r)) ∧ w.grownBy w' none := by
 match r, h1, h2 with
 | 1, _, _ => exact Zgu p vp _ B wb w hB h
 | 2, _, _ => exact Zju p vp _ B wb w hB h mb rfl hmb
 | 3, _, _ => exact Zgx p vp _ B wb w hB h
 | 4, _, _ => exact Zmu p vp _ B wb w hB h
 | 5, _, _ => exact Zfg p vp _ B wb w hB h
 | 6, _, _ => exact Zff p vp _ B wb w hB h
 | 7, _, _ => exact Zgc p vp _ B wb w hB h
 | 8, _, _ => exact Ziy p vp _ B wb w hB h
 | 9, _, _ => exact Zim p vp _ B wb w hB h mb rfl hmb
 | 10, _, _ => exact Zlv p vp _ B wb w hB h
 | 11, _, _ => exact Zly p vp _ B wb w hB h
 | 12, _, _ => exact Zkw p vp _ B wb w hB h
 | 13, _, _ => exact Zmt p vp _ B wb w hB h
 | 14, _, _ => exact Zpa p vp _ B wb w hB h
 | 15, _, _ => exact Zjj p vp _ B wb w hB h
 | 16, _, _ => exact Zqg p vp _ B wb w hB h
 | n + 17, _, h => omega
theorem Jm {P : Program} (w : World) (d : Nat) (t : TypeId) (f : Fn) (a b : Array Value) {ps rs v} (h : P.underlying t = some (.func ps rs v)) :
  (Op.equalIn (d + 1) t (.func f a b) .nilFunc).run P w = .ok false w := by
 simp [Op.equalIn, run_underlying h]
theorem Zce {P : Program} (w : World) (t : TypeId) (f : Fn) (a b : Array Value) {ps rs v} (h : P.underlying t = some (.func ps rs v)) :
  (binOp .eql t (.func f a b) .nilFunc).run P w = .ok (.bool false) w := by
 simp only [binOp];simp [Op.equal, Op.maxDepth, Jm w 9999 t f a b h]
theorem Zpo (r : Nat) (h1 : 1 ≤ r) (h2 : r ≤ 16) (p : GProg) (vp : Value) (B : Nat) (w : World) (hB : B ≤ w.heap.size) (h : ProgAt w B vp p) :
  Calls Tryz.prog 96 #[.agg #[vp], .int .u8 r] w fun e w' => e = .returned (ptV (Vd p r)) ∧ w.grownBy w' none := by
 have hP := h;obtain ⟨A, c, rfl, hm, hlc, hcm, hA⟩ := h.open_;obtain ⟨w3, hw3⟩ : ∃ w3 : World, w3 = ((((w.alloc (.cells #[.slice A p.length c] 24)).alloc (.cells z3 42)).alloc shapeObj).alloc (.cells #[.slice A p.length c, .map (some (w.heap.size + 1 + 1))] 179)).drew := ⟨_, rfl⟩
 have hs3 : w3.heap.size = w.heap.size + 4 := by rw [hw3]; simp
 have hb3 : Below w.heap.size w w3 := by rw [hw3]; exact (((((Below.refl w.heap.size w).alloc (Nat.le_refl _) _).alloc (by simp) _).alloc (by simp; omega) _).alloc (by simp; omega) _).drew
 have hpt : w3.heap[w.heap.size + 1]? = some (.cells z3 42 (0, 0)) := by
  have := World.alloc_heap_new (w.alloc (.cells #[.slice A p.length c] 24)) (.cells z3 42);simp only [World.size_alloc] at this;rw [hw3]; exact Zb (Zb this _) _
 have hsh : w3.heap[w.heap.size + 1 + 1]? = some shapeObj := by
  have := World.alloc_heap_new ((w.alloc (.cells #[.slice A p.length c] 24)).alloc (.cells z3 42)) shapeObj;simp only [World.size_alloc] at this;rw [hw3]; exact Zb this _
 have hwk : w3.heap[w.heap.size + 1 + 1 + 1]? = some (.cells #[.slice A p.length c, .map (some (w.heap.size + 1 + 1))] 179 (0, 0)) := by
  have := World.alloc_heap_new (((w.alloc (.cells #[.slice A p.length c] 24)).alloc (.cells z3 42)).alloc shapeObj) (.cells #[.slice A p.length c, .map (some (w.heap.size + 1 + 1))] 179);simp only [World.size_alloc] at this;rw [hw3]; exact this
 obtain ⟨w4, hw4⟩ : ∃ w4 : World, w4 = w3.alloc (Yd encUI idV (Zbg (.pointer (some ⟨w.heap.size + 1 + 1 + 1, 0, none⟩)))) := ⟨_, rfl⟩
 have hwalk : WalkAt w4 (w.heap.size + 4) (w.heap.size + 1 + 1 + 1) p (.slice A p.length c) (.map (some (w.heap.size + 1 + 1))) := by
  have hb4 : Below w.heap.size w w4 := by rw [hw4]; exact hb3.alloc (by omega) _
  have h5 : w4.heap[w.heap.size + 1 + 1 + 1]? = some (.cells #[.slice A p.length c, .map (some (w.heap.size + 1 + 1))] 179 (0, 0)) := by rw [hw4]; exact Zb hwk _
  exact ⟨(hP.below funR.keeps hb4 hB).more funR.keeps (by omega), (Za h5).1 0, (Za h5).1 1, by omega⟩
 have hcall := Zsg r h1 h2 p (.slice A p.length c) (w.heap.size + 4) (w.heap.size + 1 + 1 + 1) (w.heap.size + 1 + 1) w4 (by rw [hw4]; simp; omega) hwalk (by rw [hw4]; exact Zb hsh _);have hlk := Zoz (.pointer (some ⟨w.heap.size + 1 + 1 + 1, 0, none⟩)) r h1 h2;have hmt := World.alloc_heap_new w3 (Yd encUI idV (Zbg (.pointer (some ⟨w.heap.size + 1 + 1 + 1, 0, none⟩))));have eg := Zkf r h1 h2;have hmm : ∀ w : World, (Instr.makeMap 181 none).run Tryz.prog w = .ok (.map (some w.heap.size)) (w.alloc (Yd encUI idV [])) := @run_makeMap Tryz.prog 181;have hz : (zeroValue 180).run Tryz.prog w4 = .ok .nilFunc w4 := by kernel_rfl
 obtain ⟨M, hM⟩ : ∃ M, M = Zfi r := ⟨_, rfl⟩
 rw [← hM] at hcall hlk eg;have Hb3 := hid hb3;have Hs3 := hid hs3;have Hpt := hid hpt;have Hw4 := hid hw4;have Hmt := hid hmt;have Hlk := hid hlk;clear hw4 hs3 hP h hA hwalk hsh hwk hM hb3 hpt hmt hlk;go_enter Tryz.func96, Tryz.ntmps96;go_wp2;go_region_held3 (fun w' => w'.cell? ⟨w.heap.size, 0, none⟩ = some (.slice A p.length c)) (simp [go_sem, World.cell?_alloc_past])
  (first | (go_at_call 112; refine (Zno _).mono ?_; rintro e w' ⟨rfl, rfl⟩))
 rw [← hw3];clear hw3;go_upto_region 3 with (first | (refine Vh rfl _ _ _ _ rfl (Zfd Tryz.underlying85) Tryz.underlying181 _ _ rfl rfl _ _ rfl rfl ?_) | (refine Zgz rfl _ _ _ rfl (Zfd Tryz.underlying85) Tryz.underlying181 w3.heap.size (Zbg (.pointer (some ⟨w.heap.size + 1 + 1 + 1, 0, none⟩))) rfl Hmt.out (r : Int) rfl .nilFunc (by kernel_rfl) ?_; rw [Hlk.out]; simp only [idV]))
 have hW : ∀ o, o = Yd encUI idV (Zbg (.pointer (some ⟨w.heap.size + 1 + 1 + 1, 0, none⟩))) → w3.alloc o = w4 := fun o e => by rw [e]; exact Hw4.out.symm
 rw [hW _ ?tab]
 case tab => rfl
 have hs4 : w4.heap.size = w.heap.size + 5 := by rw [Hw4.out, World.size_alloc, Hs3.out]
 have Hb4 := hid (show Below w.heap.size w w4 by rw [Hw4.out]; exact Hb3.out.alloc (by have := Hs3.out; omega) _);have Hpt4 := hid (show w4.heap[w.heap.size + 1]? = some (.cells z3 42 (0, 0)) by rw [Hw4.out]; exact Zb Hpt.out _);clear hW hmm hz Hmt Hlk Hs3 Hw4 Hb3 Hpt;have heq : ∀ (W : World) (a b : Array Value), (binOp .eql 180 (.func (.func M) a b) .nilFunc).run Tryz.prog W = .ok (.bool false) W := fun W a b => Zce W _ _ a b Tryz.underlying180
 cases hra : Vd p r with
 | none =>
  rw [hra] at hcall;simp only [ptV, ptC, Option.isSome_none] at hcall
  repeat go_step
  refine hcall.mono ?_;rintro e w5 ⟨rfl, hg5⟩;have h5 := (hg5.block _ (by omega) (by simp)).trans Hpt4.out;obtain ⟨k1, k2⟩ := Za h5;have H5 := hid h5;clear h5;go_wp2;refine bodyPost_ret (v := ptV none) (by simp [results, Tryz.results96, go_sem, ptV, ptC, k1]) rfl ⟨by rw [hra], ?_⟩;have h6 := Zc (Zj Hb4.out) hg5
  repeat (first | exact h6 | refine Zh ?_ (by simp) _)
 | some pt =>
  rw [hra] at hcall;obtain ⟨p1, p2, p3⟩ := pt;simp only [ptV, ptC, Option.isSome_some] at hcall
  repeat go_step
  refine hcall.mono ?_;rintro e w5 ⟨rfl, hg5⟩;have h5 := (hg5.block _ (by omega) (by simp)).trans Hpt4.out;obtain ⟨k1, k2⟩ := Za h5;have H5 := hid h5;clear h5;go_wp2;refine bodyPost_ret (v := ptV (some (p1, p2, p3))) (by simp [results, Tryz.results96, go_sem, ptV, ptC, k1]) rfl ⟨by rw [hra], ?_⟩;have h6 := Zc (Zj Hb4.out) hg5
  repeat (first | exact h6 | refine Zh ?_ (by simp) _)
end Go.Proofs.YtiheiaaifdjpeaaGreat
namespace Go.Proofs.YtiheiaaifdjpeaaGreat
open Lib(hid)
open Go.RowKit
def V4 (r : Nat × GPt) : Array Value := #[.int .u8 r.1, .int .i64 r.2.1, .int .i64 r.2.2.1, .int .i64 r.2.2.2]
def Xz (r : Nat × GPt) : Value := .agg (V4 r)
theorem Zrl {p : GProg} (h : ∀ r, 1 ≤ r → r ≤ 16 → Vd p r = none) : Z9 p = (0, (0, 0, 0)) := by
 unfold Z9;rw [Qa]
 ·rfl
 ·intro j x hj;have hj' := (List.getElem?_eq_some_iff.1 hj).1;rw [h (1 + j) (by omega) (by simp at hj'; omega)];rfl
theorem Zrm {p : GProg} {r : Nat} {pt : GPt} (h1 : 1 ≤ r) (h2 : r ≤ 16) (hb : ∀ j, 1 ≤ j → j < r → Vd p j = none) (h : Vd p r = some pt) : Z9 p = (r, pt) := by
 unfold Z9;rw [Qb (n := r - 1) (x := r - 1) (r := (r, pt))]
 ·rfl
 ·intro j hj y _;rw [hb (1 + j) (by omega) (by omega)];rfl
 ·rw [List.getElem?_range (by omega)]
 ·rw [show 1 + (r - 1) = r by omega, h];rfl
theorem Zfm (p : GProg) (vp : Value) (B : Nat) (w : World) (hB : B ≤ w.heap.size) (h : ProgAt w B vp p) :
  Calls Tryz.prog 81 #[.agg #[vp]] w fun e w' => e = .returned (Xz (Z9 p)) ∧ w.grownBy w' none := by
 have hP := h;obtain ⟨A, c, rfl, hm, hlc, hcm, hA⟩ := h.open_;have HP := hid hP;clear h hA hP;go_enter Tryz.func81, Tryz.ntmps81;go_wp2;obtain ⟨w1, hw1⟩ : ∃ w1 : World, w1 = (w.alloc (.cells #[.slice A p.length c] 24)).alloc (.cells #[.int .u8 0, .int .i64 0, .int .i64 0, .int .i64 0] 87) := ⟨_, rfl⟩
 have hs1 : w1.heap.size = w.heap.size + 2 := by rw [hw1]; simp
 have hg1 : w.grownBy w1 none := by rw [hw1]; exact Zd (World.grownBy_alloc w _ none) _
 have hp1 : w1.heap[w.heap.size]? = some (.cells #[.slice A p.length c] 24 (0, 0)) := by rw [hw1]; exact Zb (World.alloc_heap_new w _) _
 have hr1 : w1.heap[w.heap.size + 1]? = some (.cells #[.int .u8 0, .int .i64 0, .int .i64 0, .int .i64 0] 87 (0, 0)) := by
  have := World.alloc_heap_new (w.alloc (.cells #[.slice A p.length c] 24)) (.cells #[.int .u8 0, .int .i64 0, .int .i64 0, .int .i64 0] 87);simp only [World.size_alloc] at this;rw [hw1]; exact this
 rw [← hw1];clear hw1;go_loopw [3] (fun s3 wr => ∃ r : Nat, 1 ≤ r ∧ r ≤ 17 ∧ s3 = .int .u8 r ∧ Hid (w1.grownBy wr none) ∧ Hid (∀ j, 1 ≤ j → j < r → Vd p j = none)) (fun s3 _ => 17 - (intOf s3).toNat)
 case atStart => exact ⟨1, Nat.le_refl _, by omega, rfl, World.grownBy.refl _ _, fun j h1 h2 => by omega⟩
 case round =>
  obtain ⟨r, hr1', hr2, rfl, hg, hN⟩ := hrel;have hgw := Zc hg1 hg.out;have hp2 : wr.cell? ⟨w.heap.size, 0, none⟩ = some (.slice A p.length c) := (Za ((hg.out.block _ (by omega) (by simp)).trans hp1)).1 0;have hszr := hg.out.size
  by_cases hl : r ≤ 16
  ·have hcall := Zpo r hr1' hl p (.slice A p.length c) B wr (by omega) (HP.out.below funR.keeps (Zk hgw) hB);have Hgw := hid hgw;have Hr1 := hid ((hg.out.block _ (by omega) (by simp)).trans hr1)
   cases hra : Vd p r with
   | none =>
    rw [hra] at hcall;simp only [ptV, ptC, Option.isSome_none] at hcall;have Hra := hid hra;clear hra hgw
    repeat go_step
    refine hcall.mono ?_;rintro e w2 ⟨rfl, hg2⟩;go_wp2;go_roundw
    case rel => exact ⟨r + 1, by omega, by omega, by go_num, Zd (Zc hg.out hg2) _, fun j h1 h2 => by
     by_cases e : j = r
     ·subst e; exact Hra.out
     ·exact hN.out j h1 (by omega)⟩
    case measure => simp [intOf]; omega
   | some pt =>
    obtain ⟨p1, p2, p3⟩ := pt;rw [hra] at hcall;simp only [ptV, ptC, Option.isSome_some] at hcall;have Hra := hid hra;clear hra hgw
    repeat go_step
    refine hcall.mono ?_;rintro e w2 ⟨rfl, hg2⟩;have hsz2 := hg2.size;have h3 := (hg2.block _ (by omega) (by simp)).trans Hr1.out;obtain ⟨k1, k2⟩ := Za h3;clear h3;have hne : w.heap.size + 1 ≠ w2.heap.size := by omega
    have hlt2 : w.heap.size + 1 < w2.heap.size := by omega
    go_wp2;refine bodyPost_ret (v := Xz (r, (p1, p2, p3))) (by simp [results, Tryz.results81, go_sem, Xz, V4, k1, hne, hlt2]) rfl ⟨by rw [Zrm hr1' hl hN.out Hra.out], ?_⟩;have h6 := Zc Hgw.out hg2
    repeat (first | exact h6 | apply Zd | refine Zh ?_ (by simp) _)
  ·obtain rfl : r = 17 := by omega
   have HD := hid (show Z9 p = (0, (0, 0, 0)) from Zrl fun r h1 h2 => hN.out r h1 (by omega));have h3 := (hg.out.block _ (by omega) (by simp)).trans hr1;obtain ⟨k1, k2⟩ := Za h3;have Hgw := hid hgw;clear h3 hgw;go_wp2;refine bodyPost_ret (v := Xz (0, (0, 0, 0))) (by simp [results, Tryz.results81, go_sem, Xz, V4, k1]) rfl ⟨by rw [HD.out], ?_⟩
   repeat (first | exact Hgw.out | refine Zh ?_ (by simp) _)
end Go.Proofs.YtiheiaaifdjpeaaGreat

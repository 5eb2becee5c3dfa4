/- The contract of names.First, for the rules of names. Condition: the program lies in memory. -/
import Derived.Test.YtpemkbjbbcnddaaGreatCNam6
import Derived.Test.YtpemkbjbbcnddaaGreatCNam8
import Derived.Test.YtpemkbjbbcnddaaGreatCNam9
import Derived.Test.YtpemkbjbbcnddaaGreatCNam10
import Derived.Test.YtpemkbjbbcnddaaGreatCNam11
import Derived.Deep.RegionHeld3
import Derived.Test.YtpemkbjbbcnddaaGreatCSli
set_option linter.unusedVariables false
set_option linter.unusedSimpArgs false
set_option linter.unusedSectionVars false
namespace Go.Proofs.YtpemkbjbbcnddaaGreat
open Go.RowKit

def methNo : Nat → Nat
  | 1 => 38
  | 2 => 39
  | 3 => 40
  | 4 => 41
  | 5 => 42
  | 6 => 43
  | 7 => 44
  | 8 => 45
  | 9 => 46
  | 10 => 47
  | 11 => 48
  | 12 => 49
  | 13 => 50
  | 14 => 51
  | 15 => 52
  | 16 => 53
  | _ => 0
def methTab (ptr : Value) : List (Int × Value) := [((1 : Int), Value.func (.func 38) #[ptr] #[]), ((2 : Int), Value.func (.func 39) #[ptr] #[]), ((3 : Int), Value.func (.func 40) #[ptr] #[]), ((4 : Int), Value.func (.func 41) #[ptr] #[]), ((5 : Int), Value.func (.func 42) #[ptr] #[]), ((6 : Int), Value.func (.func 43) #[ptr] #[]), ((7 : Int), Value.func (.func 44) #[ptr] #[]), ((8 : Int), Value.func (.func 45) #[ptr] #[]), ((9 : Int), Value.func (.func 46) #[ptr] #[]), ((10 : Int), Value.func (.func 47) #[ptr] #[]), ((11 : Int), Value.func (.func 48) #[ptr] #[]), ((12 : Int), Value.func (.func 49) #[ptr] #[]), ((13 : Int), Value.func (.func 50) #[ptr] #[]), ((14 : Int), Value.func (.func 51) #[ptr] #[]), ((15 : Int), Value.func (.func 52) #[ptr] #[]), ((16 : Int), Value.func (.func 53) #[ptr] #[])]
theorem aget_meth (ptr : Value) (r : Nat) (h1 : 1 ≤ r) (h2 : r ≤ 16) : aget (methTab ptr) (r : Int) = some (.func (.func (methNo r)) #[ptr] #[]) := by
  match r, h1, h2 with
  | 1, _, _ => rfl
  | 2, _, _ => rfl
  | 3, _, _ => rfl
  | 4, _, _ => rfl
  | 5, _, _ => rfl
  | 6, _, _ => rfl
  | 7, _, _ => rfl
  | 8, _, _ => rfl
  | 9, _, _ => rfl
  | 10, _, _ => rfl
  | 11, _, _ => rfl
  | 12, _, _ => rfl
  | 13, _, _ => rfl
  | 14, _, _ => rfl
  | 15, _, _ => rfl
  | 16, _, _ => rfl
  | n + 17, _, h => omega
theorem enters_meth (r : Nat) (h1 : 1 ≤ r) (h2 : r ≤ 16) : ∀ args w, (callFunc (methNo r) args).run Tryz.prog w = .ok (.enter (methNo r) args) w := by
  match r, h1, h2 with
  | 1, _, _ => exact enters_of Tryz.func38 (by kernel_rfl) rfl
  | 2, _, _ => exact enters_of Tryz.func39 (by kernel_rfl) rfl
  | 3, _, _ => exact enters_of Tryz.func40 (by kernel_rfl) rfl
  | 4, _, _ => exact enters_of Tryz.func41 (by kernel_rfl) rfl
  | 5, _, _ => exact enters_of Tryz.func42 (by kernel_rfl) rfl
  | 6, _, _ => exact enters_of Tryz.func43 (by kernel_rfl) rfl
  | 7, _, _ => exact enters_of Tryz.func44 (by kernel_rfl) rfl
  | 8, _, _ => exact enters_of Tryz.func45 (by kernel_rfl) rfl
  | 9, _, _ => exact enters_of Tryz.func46 (by kernel_rfl) rfl
  | 10, _, _ => exact enters_of Tryz.func47 (by kernel_rfl) rfl
  | 11, _, _ => exact enters_of Tryz.func48 (by kernel_rfl) rfl
  | 12, _, _ => exact enters_of Tryz.func49 (by kernel_rfl) rfl
  | 13, _, _ => exact enters_of Tryz.func50 (by kernel_rfl) rfl
  | 14, _, _ => exact enters_of Tryz.func51 (by kernel_rfl) rfl
  | 15, _, _ => exact enters_of Tryz.func52 (by kernel_rfl) rfl
  | 16, _, _ => exact enters_of Tryz.func53 (by kernel_rfl) rfl
  | n + 17, _, h => omega
theorem meth_any (r : Nat) (h1 : 1 ≤ r) (h2 : r ≤ 16) (p : GProg) (vp : Value) (B wb mb : Nat) (w : World) (hB : B ≤ w.heap.size) (h : WalkAt w B wb p vp (.map (some mb))) (hmb : w.heap[mb]? = some shapeObj) :
    Calls Tryz.prog (methNo r) #[.pointer (some ⟨wb, 0, none⟩)] w fun e w' => e = .returned (ptV (ruleAt p r)) ∧ w.grownBy w' none := by
  match r, h1, h2 with
  | 1, _, _ => exact manyFuncs_any p vp _ B wb w hB h
  | 2, _, _ => exact badName_any p vp _ B wb w hB h mb rfl hmb
  | 3, _, _ => exact twiceFunc_any p vp _ B wb w hB h
  | 4, _, _ => exact noMain_any p vp _ B wb w hB h
  | 5, _, _ => exact manyParams_any p vp _ B wb w hB h
  | 6, _, _ => exact manyBlocks_any p vp _ B wb w hB h
  | 7, _, _ => exact twiceLabel_any p vp _ B wb w hB h
  | 8, _, _ => exact manyCode_any p vp _ B wb w hB h
  | 9, _, _ => exact badInstr_any p vp _ B wb w hB h mb rfl hmb
  | 10, _, _ => exact badEnd_any p vp _ B wb w hB h
  | 11, _, _ => exact badPhi_any p vp _ B wb w hB h
  | 12, _, _ => exact noLabel_any p vp _ B wb w hB h
  | 13, _, _ => exact noFunc_any p vp _ B wb w hB h
  | 14, _, _ => exact arity_any p vp _ B wb w hB h
  | 15, _, _ => exact twiceVar_any p vp _ B wb w hB h
  | 16, _, _ => exact noVar_any p vp _ B wb w hB h
  | n + 17, _, h => omega

theorem run_equalIn_func_nil {P : Program} (w : World) (d : Nat) (t : TypeId) (f : Fn) (a b : Array Value) {ps rs v} (h : P.underlying t = some (.func ps rs v)) :
    (Op.equalIn (d + 1) t (.func f a b) .nilFunc).run P w = .ok false w := by
  simp [Op.equalIn, run_underlying h]
theorem run_eql_func_nil {P : Program} (w : World) (t : TypeId) (f : Fn) (a b : Array Value) {ps rs v} (h : P.underlying t = some (.func ps rs v)) :
    (binOp .eql t (.func f a b) .nilFunc).run P w = .ok (.bool false) w := by
  simp only [binOp]
  simp [Op.equal, Op.maxDepth, run_equalIn_func_nil w 9999 t f a b h]

set_option maxRecDepth 100000 in
set_option maxHeartbeats 4000000 in
theorem first_any (r : Nat) (h1 : 1 ≤ r) (h2 : r ≤ 16) (p : GProg) (vp : Value) (B : Nat) (w : World) (hB : B ≤ w.heap.size) (h : ProgAt w B vp p) :
    Calls Tryz.prog 24 #[.agg #[vp], .int .u8 r] w fun e w' => e = .returned (ptV (ruleAt p r)) ∧ w.grownBy w' none := by
  have hP := h
  obtain ⟨A, c, rfl, hm, hlc, hcm, hA⟩ := h.open_
  obtain ⟨w3, hw3⟩ : ∃ w3 : World, w3 = ((((w.alloc (.cells #[.slice A p.length c] 24)).alloc (.cells z3 29)).alloc shapeObj).alloc (.cells #[.slice A p.length c, .map (some (w.heap.size + 1 + 1))] 101)).drew := ⟨_, rfl⟩
  have hs3 : w3.heap.size = w.heap.size + 4 := by rw [hw3]; simp
  have hb3 : Below w.heap.size w w3 := by rw [hw3]; exact (((((Below.refl w.heap.size w).alloc (Nat.le_refl _) _).alloc (by simp) _).alloc (by simp; omega) _).alloc (by simp; omega) _).drew
  have hpt : w3.heap[w.heap.size + 1]? = some (.cells z3 29 (0, 0)) := by
    have := World.alloc_heap_new (w.alloc (.cells #[.slice A p.length c] 24)) (.cells z3 29)
    simp only [World.size_alloc] at this
    rw [hw3]; exact seen_alloc (seen_alloc this _) _
  have hsh : w3.heap[w.heap.size + 1 + 1]? = some shapeObj := by
    have := World.alloc_heap_new ((w.alloc (.cells #[.slice A p.length c] 24)).alloc (.cells z3 29)) shapeObj
    simp only [World.size_alloc] at this
    rw [hw3]; exact seen_alloc this _
  have hwk : w3.heap[w.heap.size + 1 + 1 + 1]? = some (.cells #[.slice A p.length c, .map (some (w.heap.size + 1 + 1))] 101 (0, 0)) := by
    have := World.alloc_heap_new (((w.alloc (.cells #[.slice A p.length c] 24)).alloc (.cells z3 29)).alloc shapeObj) (.cells #[.slice A p.length c, .map (some (w.heap.size + 1 + 1))] 101)
    simp only [World.size_alloc] at this
    rw [hw3]; exact this
  obtain ⟨w4, hw4⟩ : ∃ w4 : World, w4 = w3.alloc (mobj encUI idV (methTab (.pointer (some ⟨w.heap.size + 1 + 1 + 1, 0, none⟩)))) := ⟨_, rfl⟩
  have hwalk : WalkAt w4 (w.heap.size + 4) (w.heap.size + 1 + 1 + 1) p (.slice A p.length c) (.map (some (w.heap.size + 1 + 1))) := by
    have hb4 : Below w.heap.size w w4 := by rw [hw4]; exact hb3.alloc (by omega) _
    have h5 : w4.heap[w.heap.size + 1 + 1 + 1]? = some (.cells #[.slice A p.length c, .map (some (w.heap.size + 1 + 1))] 101 (0, 0)) := by rw [hw4]; exact seen_alloc hwk _
    exact ⟨(hP.below funR.keeps hb4 hB).more funR.keeps (by omega), (blk_facts h5).1 0, (blk_facts h5).1 1, by omega⟩
  have hcall := meth_any r h1 h2 p (.slice A p.length c) (w.heap.size + 4) (w.heap.size + 1 + 1 + 1) (w.heap.size + 1 + 1) w4 (by rw [hw4]; simp; omega) hwalk (by rw [hw4]; exact seen_alloc hsh _)
  have hlk := aget_meth (.pointer (some ⟨w.heap.size + 1 + 1 + 1, 0, none⟩)) r h1 h2
  have hmt := World.alloc_heap_new w3 (mobj encUI idV (methTab (.pointer (some ⟨w.heap.size + 1 + 1 + 1, 0, none⟩))))
  have eg := enters_meth r h1 h2
  have hmm : ∀ w : World, (Instr.makeMap 103 none).run Tryz.prog w = .ok (.map (some w.heap.size)) (w.alloc (mobj encUI idV [])) := @run_makeMap Tryz.prog 103
  have hz : (zeroValue 102).run Tryz.prog w4 = .ok .nilFunc w4 := by kernel_rfl
  obtain ⟨M, hM⟩ : ∃ M, M = methNo r := ⟨_, rfl⟩
  rw [← hM] at hcall hlk eg
  have Hb3 := Lib.hid hb3
  have Hs3 := Lib.hid hs3
  have Hpt := Lib.hid hpt
  have Hw4 := Lib.hid hw4
  have Hmt := Lib.hid hmt
  have Hlk := Lib.hid hlk
  clear hw4 hs3 hP h hA hwalk hsh hwk hM hb3 hpt hmt hlk
  go_enter Tryz.func24, Tryz.ntmps24
  go_wp2
  go_region_held3 (fun w' => w'.cell? ⟨w.heap.size, 0, none⟩ = some (.slice A p.length c)) (simp [go_sem, World.cell?_alloc_past])
    (first | (go_at_call 37; refine (shapes_any _).mono ?_; rintro e w' ⟨rfl, rfl⟩))
  rw [← hw3]
  clear hw3
  go_upto_region 3 with (first | (refine wpList_mapLit rfl _ _ _ _ rfl (keyUI Tryz.underlying27) Tryz.underlying103 _ _ rfl rfl _ _ rfl rfl ?_) | (refine wpList_mapGet rfl _ _ _ rfl (keyUI Tryz.underlying27) Tryz.underlying103 w3.heap.size (methTab (.pointer (some ⟨w.heap.size + 1 + 1 + 1, 0, none⟩))) rfl Hmt.out (r : Int) rfl .nilFunc (by kernel_rfl) ?_; rw [Hlk.out]; simp only [idV]))
  have hW : ∀ o, o = mobj encUI idV (methTab (.pointer (some ⟨w.heap.size + 1 + 1 + 1, 0, none⟩))) → w3.alloc o = w4 := fun o e => by rw [e]; exact Hw4.out.symm
  rw [hW _ ?tab]
  case tab => rfl
  have hs4 : w4.heap.size = w.heap.size + 5 := by rw [Hw4.out, World.size_alloc, Hs3.out]
  have Hb4 := Lib.hid (show Below w.heap.size w w4 by rw [Hw4.out]; exact Hb3.out.alloc (by have := Hs3.out; omega) _)
  have Hpt4 := Lib.hid (show w4.heap[w.heap.size + 1]? = some (.cells z3 29 (0, 0)) by rw [Hw4.out]; exact seen_alloc Hpt.out _)
  clear hW hmm hz Hmt Hlk Hs3 Hw4 Hb3 Hpt
  have heq : ∀ (W : World) (a b : Array Value), (binOp .eql 102 (.func (.func M) a b) .nilFunc).run Tryz.prog W = .ok (.bool false) W := fun W a b => run_eql_func_nil W _ _ a b Tryz.underlying102
  cases hra : ruleAt p r with
  | none =>
    rw [hra] at hcall
    simp only [ptV, ptC, Option.isSome_none] at hcall
    repeat go_step
    refine hcall.mono ?_
    rintro e w5 ⟨rfl, hg5⟩
    have h5 := (hg5.block _ (by omega) (by simp)).trans Hpt4.out
    obtain ⟨k1, k2⟩ := blk_facts h5
    have H5 := Lib.hid h5
    clear h5
    go_wp2
    refine bodyPost_ret (v := ptV none) (by simp [results, Tryz.results24, go_sem, ptV, ptC, k1]) rfl ⟨by rw [hra], ?_⟩
    have h6 := grown_trans (below_grown Hb4.out) hg5
    repeat (first | exact h6 | refine grown_set ?_ (by simp) _)
  | some pt =>
    rw [hra] at hcall
    obtain ⟨p1, p2, p3⟩ := pt
    simp only [ptV, ptC, Option.isSome_some] at hcall
    repeat go_step
    refine hcall.mono ?_
    rintro e w5 ⟨rfl, hg5⟩
    have h5 := (hg5.block _ (by omega) (by simp)).trans Hpt4.out
    obtain ⟨k1, k2⟩ := blk_facts h5
    have H5 := Lib.hid h5
    clear h5
    go_wp2
    refine bodyPost_ret (v := ptV (some (p1, p2, p3))) (by simp [results, Tryz.results24, go_sem, ptV, ptC, k1]) rfl ⟨by rw [hra], ?_⟩
    have h6 := grown_trans (below_grown Hb4.out) hg5
    repeat (first | exact h6 | refine grown_set ?_ (by simp) _)
end Go.Proofs.YtpemkbjbbcnddaaGreat

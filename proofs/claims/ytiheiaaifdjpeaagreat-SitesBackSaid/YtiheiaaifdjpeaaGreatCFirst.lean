/- The contract of names.First, for the rules of names. Condition: the program lies in memory. -/
import Derived.Test.YtiheiaaifdjpeaaGreatCNam6
import Derived.Test.YtiheiaaifdjpeaaGreatCNam9
import Derived.Test.YtiheiaaifdjpeaaGreatCNam10
import Derived.Test.YtiheiaaifdjpeaaGreatCNam11
set_option linter.unusedVariables false
set_option linter.unusedSimpArgs false
set_option linter.unusedSectionVars false
set_option maxHeartbeats 4000000
set_option maxRecDepth 100000
namespace Go.Proofs.YtiheiaaifdjpeaaGreat
open Go.RowKit
def methNo : Nat → Nat
 | 1 => 113
 | 2 => 114
 | 3 => 115
 | 4 => 116
 | 5 => 117
 | 6 => 118
 | 7 => 119
 | 8 => 120
 | 9 => 121
 | 10 => 122
 | 11 => 123
 | 12 => 124
 | 13 => 125
 | 14 => 126
 | 15 => 127
 | 16 => 128
 | _ => 0
def methTab (ptr : Value) : List (Int × Value) := [((1 : Int), Value.func (.func 113) #[ptr] #[]), ((2 : Int), Value.func (.func 114) #[ptr] #[]), ((3 : Int), Value.func (.func 115) #[ptr] #[]), ((4 : Int), Value.func (.func 116) #[ptr] #[]), ((5 : Int), Value.func (.func 117) #[ptr] #[]), ((6 : Int), Value.func (.func 118) #[ptr] #[]), ((7 : Int), Value.func (.func 119) #[ptr] #[]), ((8 : Int), Value.func (.func 120) #[ptr] #[]), ((9 : Int), Value.func (.func 121) #[ptr] #[]), ((10 : Int), Value.func (.func 122) #[ptr] #[]), ((11 : Int), Value.func (.func 123) #[ptr] #[]), ((12 : Int), Value.func (.func 124) #[ptr] #[]), ((13 : Int), Value.func (.func 125) #[ptr] #[]), ((14 : Int), Value.func (.func 126) #[ptr] #[]), ((15 : Int), Value.func (.func 127) #[ptr] #[]), ((16 : Int), Value.func (.func 128) #[ptr] #[])]
theorem aget_meth (ptr : Value) (r : Nat) (h1 : 1 ≤ r) (h2 : r ≤ 16) : aget (methTab ptr) (r : Int) = some (.func (.func (methNo r)) #[ptr] #[]) := by
 match r, h1, h2 with
 | 1, _, _ => rfl
 | 2, _, _ => rfl
 | 3, _, _ => rfl
 | 4, _, _ => rfl
 | 5, _, _ => rfl
 | 6, _, _ => rfl
 | 7, _, _ => rfl
 | 8, _, _ => rfl
 | 9, _, _ => rfl
 | 10, _, _ => rfl
 | 11, _, _ => rfl
 | 12, _, _ => rfl
 | 13, _, _ => rfl
 | 14, _, _ => rfl
 | 15, _, _ => rfl
 | 16, _, _ => rfl
 | n + 17, _, h => omega
theorem enters_meth (r : Nat) (h1 : 1 ≤ r) (h2 : r ≤ 16) : ∀ args w, (callFunc (methNo r) args).run Tryz.prog w = .ok (.enter (methNo r) args) w := by
 match r, h1, h2 with
 | 1, _, _ => exact enters_of Tryz.func113 (by kernel_rfl) rfl
 | 2, _, _ => exact enters_of Tryz.func114 (by kernel_rfl) rfl
 | 3, _, _ => exact enters_of Tryz.func115 (by kernel_rfl) rfl
 | 4, _, _ => exact enters_of Tryz.func116 (by kernel_rfl) rfl
 | 5, _, _ => exact enters_of Tryz.func117 (by kernel_rfl) rfl
 | 6, _, _ => exact enters_of Tryz.func118 (by kernel_rfl) rfl
 | 7, _, _ => exact enters_of Tryz.func119 (by kernel_rfl) rfl
 | 8, _, _ => exact enters_of Tryz.func120 (by kernel_rfl) rfl
 | 9, _, _ => exact enters_of Tryz.func121 (by kernel_rfl) rfl
 | 10, _, _ => exact enters_of Tryz.func122 (by kernel_rfl) rfl
 | 11, _, _ => exact enters_of Tryz.func123 (by kernel_rfl) rfl
 | 12, _, _ => exact enters_of Tryz.func124 (by kernel_rfl) rfl
 | 13, _, _ => exact enters_of Tryz.func125 (by kernel_rfl) rfl
 | 14, _, _ => exact enters_of Tryz.func126 (by kernel_rfl) rfl
 | 15, _, _ => exact enters_of Tryz.func127 (by kernel_rfl) rfl
 | 16, _, _ => exact enters_of Tryz.func128 (by kernel_rfl) rfl
 | n + 17, _, h => omega
theorem meth_any (r : Nat) (h1 : 1 ≤ r) (h2 : r ≤ 16) (p : GProg) (vp : Value) (B wb mb : Nat) (w : World) (hB : B ≤ w.heap.size) (h : WalkAt w B wb p vp (.map (some mb))) (hmb : w.heap[mb]? = some shapeObj) :
  Calls Tryz.prog (methNo r) #[.pointer (some ⟨wb, 0, none⟩)] w fun e w' => e = .returned (ptV (ruleAt p r)) ∧ w.grownBy w' none := by
 match r, h1, h2 with
 | 1, _, _ => exact manyFuncs_any p vp _ B wb w hB h
 | 2, _, _ => exact badName_any p vp _ B wb w hB h mb rfl hmb
 | 3, _, _ => exact twiceFunc_any p vp _ B wb w hB h
 | 4, _, _ => exact noMain_any p vp _ B wb w hB h
 | 5, _, _ => exact manyParams_any p vp _ B wb w hB h
 | 6, _, _ => exact manyBlocks_any p vp _ B wb w hB h
 | 7, _, _ => exact twiceLabel_any p vp _ B wb w hB h
 | 8, _, _ => exact manyCode_any p vp _ B wb w hB h
 | 9, _, _ => exact badInstr_any p vp _ B wb w hB h mb rfl hmb
 | 10, _, _ => exact badEnd_any p vp _ B wb w hB h
 | 11, _, _ => exact badPhi_any p vp _ B wb w hB h
 | 12, _, _ => exact noLabel_any p vp _ B wb w hB h
 | 13, _, _ => exact noFunc_any p vp _ B wb w hB h
 | 14, _, _ => exact arity_any p vp _ B wb w hB h
 | 15, _, _ => exact twiceVar_any p vp _ B wb w hB h
 | 16, _, _ => exact noVar_any p vp _ B wb w hB h
 | n + 17, _, h => omega
theorem run_equalIn_func_nil {P : Program} (w : World) (d : Nat) (t : TypeId) (f : Fn) (a b : Array Value) {ps rs v} (h : P.underlying t = some (.func ps rs v)) :
  (Op.equalIn (d + 1) t (.func f a b) .nilFunc).run P w = .ok false w := by
 simp [Op.equalIn, run_underlying h]
theorem run_eql_func_nil {P : Program} (w : World) (t : TypeId) (f : Fn) (a b : Array Value) {ps rs v} (h : P.underlying t = some (.func ps rs v)) :
  (binOp .eql t (.func f a b) .nilFunc).run P w = .ok (.bool false) w := by
 simp only [binOp]
 simp [Op.equal, Op.maxDepth, run_equalIn_func_nil w 9999 t f a b h]
theorem first_any (r : Nat) (h1 : 1 ≤ r) (h2 : r ≤ 16) (p : GProg) (vp : Value) (B : Nat) (w : World) (hB : B ≤ w.heap.size) (h : ProgAt w B vp p) :
  Calls Tryz.prog 96 #[.agg #[vp], .int .u8 r] w fun e w' => e = .returned (ptV (ruleAt p r)) ∧ w.grownBy w' none := by
 have hP := h
 obtain ⟨A, c, rfl, hm, hlc, hcm, hA⟩ := h.open_
 obtain ⟨w3, hw3⟩ : ∃ w3 : World, w3 = ((((w.alloc (.cells #[.slice A p.length c] 24)).alloc (.cells z3 42)).alloc shapeObj).alloc (.cells #[.slice A p.length c, .map (some (w.heap.size + 1 + 1))] 179)).drew := ⟨_, rfl⟩
 have hs3 : w3.heap.size = w.heap.size + 4 := by rw [hw3]; simp
 have hb3 : Below w.heap.size w w3 := by rw [hw3]; exact (((((Below.refl w.heap.size w).alloc (Nat.le_refl _) _).alloc (by simp) _).alloc (by simp; omega) _).alloc (by simp; omega) _).drew
 have hpt : w3.heap[w.heap.size + 1]? = some (.cells z3 42 (0, 0)) := by
  have := World.alloc_heap_new (w.alloc (.cells #[.slice A p.length c] 24)) (.cells z3 42)
  simp only [World.size_alloc] at this
  rw [hw3]; exact seen_alloc (seen_alloc this _) _
 have hsh : w3.heap[w.heap.size + 1 + 1]? = some shapeObj := by
  have := World.alloc_heap_new ((w.alloc (.cells #[.slice A p.length c] 24)).alloc (.cells z3 42)) shapeObj
  simp only [World.size_alloc] at this
  rw [hw3]; exact seen_alloc this _
 have hwk : w3.heap[w.heap.size + 1 + 1 + 1]? = some (.cells #[.slice A p.length c, .map (some (w.heap.size + 1 + 1))] 179 (0, 0)) := by
  have := World.alloc_heap_new (((w.alloc (.cells #[.slice A p.length c] 24)).alloc (.cells z3 42)).alloc shapeObj) (.cells #[.slice A p.length c, .map (some (w.heap.size + 1 + 1))] 179)
  simp only [World.size_alloc] at this
  rw [hw3]; exact this
 obtain ⟨w4, hw4⟩ : ∃ w4 : World, w4 = w3.alloc (mobj encUI idV (methTab (.pointer (some ⟨w.heap.size + 1 + 1 + 1, 0, none⟩)))) := ⟨_, rfl⟩
 have hwalk : WalkAt w4 (w.heap.size + 4) (w.heap.size + 1 + 1 + 1) p (.slice A p.length c) (.map (some (w.heap.size + 1 + 1))) := by
  have hb4 : Below w.heap.size w w4 := by rw [hw4]; exact hb3.alloc (by omega) _
  have h5 : w4.heap[w.heap.size + 1 + 1 + 1]? = some (.cells #[.slice A p.length c, .map (some (w.heap.size + 1 + 1))] 179 (0, 0)) := by rw [hw4]; exact seen_alloc hwk _
  exact ⟨(hP.below funR.keeps hb4 hB).more funR.keeps (by omega), (blk_facts h5).1 0, (blk_facts h5).1 1, by omega⟩
 have hcall := meth_any r h1 h2 p (.slice A p.length c) (w.heap.size + 4) (w.heap.size + 1 + 1 + 1) (w.heap.size + 1 + 1) w4 (by rw [hw4]; simp; omega) hwalk (by rw [hw4]; exact seen_alloc hsh _)
 have hlk := aget_meth (.pointer (some ⟨w.heap.size + 1 + 1 + 1, 0, none⟩)) r h1 h2
 have hmt := World.alloc_heap_new w3 (mobj encUI idV (methTab (.pointer (some ⟨w.heap.size + 1 + 1 + 1, 0, none⟩))))
 have eg := enters_meth r h1 h2
 have hmm : ∀ w : World, (Instr.makeMap 181 none).run Tryz.prog w = .ok (.map (some w.heap.size)) (w.alloc (mobj encUI idV [])) := @run_makeMap Tryz.prog 181
 have hz : (zeroValue 180).run Tryz.prog w4 = .ok .nilFunc w4 := by kernel_rfl
 obtain ⟨M, hM⟩ : ∃ M, M = methNo r := ⟨_, rfl⟩
 rw [← hM] at hcall hlk eg
 have Hb3 := Lib.hid hb3
 have Hs3 := Lib.hid hs3
 have Hpt := Lib.hid hpt
 have Hw4 := Lib.hid hw4
 have Hmt := Lib.hid hmt
 have Hlk := Lib.hid hlk
 clear hw4 hs3 hP h hA hwalk hsh hwk hM hb3 hpt hmt hlk
 go_enter Tryz.func96, Tryz.ntmps96
 go_wp2
 go_region_held3 (fun w' => w'.cell? ⟨w.heap.size, 0, none⟩ = some (.slice A p.length c)) (simp [go_sem, World.cell?_alloc_past])
  (first | (go_at_call 112; refine (shapes_any _).mono ?_; rintro e w' ⟨rfl, rfl⟩))
 rw [← hw3]
 clear hw3
 go_upto_region 3 with (first | (refine wpList_mapLit rfl _ _ _ _ rfl (keyUI Tryz.underlying85) Tryz.underlying181 _ _ rfl rfl _ _ rfl rfl ?_) | (refine wpList_mapGet rfl _ _ _ rfl (keyUI Tryz.underlying85) Tryz.underlying181 w3.heap.size (methTab (.pointer (some ⟨w.heap.size + 1 + 1 + 1, 0, none⟩))) rfl Hmt.out (r : Int) rfl .nilFunc (by kernel_rfl) ?_; rw [Hlk.out]; simp only [idV]))
 have hW : ∀ o, o = mobj encUI idV (methTab (.pointer (some ⟨w.heap.size + 1 + 1 + 1, 0, none⟩))) → w3.alloc o = w4 := fun o e => by rw [e]; exact Hw4.out.symm
 rw [hW _ ?tab]
 case tab => rfl
 have hs4 : w4.heap.size = w.heap.size + 5 := by rw [Hw4.out, World.size_alloc, Hs3.out]
 have Hb4 := Lib.hid (show Below w.heap.size w w4 by rw [Hw4.out]; exact Hb3.out.alloc (by have := Hs3.out; omega) _)
 have Hpt4 := Lib.hid (show w4.heap[w.heap.size + 1]? = some (.cells z3 42 (0, 0)) by rw [Hw4.out]; exact seen_alloc Hpt.out _)
 clear hW hmm hz Hmt Hlk Hs3 Hw4 Hb3 Hpt
 have heq : ∀ (W : World) (a b : Array Value), (binOp .eql 180 (.func (.func M) a b) .nilFunc).run Tryz.prog W = .ok (.bool false) W := fun W a b => run_eql_func_nil W _ _ a b Tryz.underlying180
 cases hra : ruleAt p r with
 | none =>
  rw [hra] at hcall
  simp only [ptV, ptC, Option.isSome_none] at hcall
  repeat go_step
  refine hcall.mono ?_
  rintro e w5 ⟨rfl, hg5⟩
  have h5 := (hg5.block _ (by omega) (by simp)).trans Hpt4.out
  obtain ⟨k1, k2⟩ := blk_facts h5
  have H5 := Lib.hid h5
  clear h5
  go_wp2
  refine bodyPost_ret (v := ptV none) (by simp [results, Tryz.results96, go_sem, ptV, ptC, k1]) rfl ⟨by rw [hra], ?_⟩
  have h6 := grown_trans (below_grown Hb4.out) hg5
  repeat (first | exact h6 | refine grown_set ?_ (by simp) _)
 | some pt =>
  rw [hra] at hcall
  obtain ⟨p1, p2, p3⟩ := pt
  simp only [ptV, ptC, Option.isSome_some] at hcall
  repeat go_step
  refine hcall.mono ?_
  rintro e w5 ⟨rfl, hg5⟩
  have h5 := (hg5.block _ (by omega) (by simp)).trans Hpt4.out
  obtain ⟨k1, k2⟩ := blk_facts h5
  have H5 := Lib.hid h5
  clear h5
  go_wp2
  refine bodyPost_ret (v := ptV (some (p1, p2, p3))) (by simp [results, Tryz.results96, go_sem, ptV, ptC, k1]) rfl ⟨by rw [hra], ?_⟩
  have h6 := grown_trans (below_grown Hb4.out) hg5
  repeat (first | exact h6 | refine grown_set ?_ (by simp) _)
end Go.Proofs.YtiheiaaifdjpeaaGreat

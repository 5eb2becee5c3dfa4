/- The rules that package sound asks of each function: what rules' iterator yields. No condition. -/
import Derived.Test.YtiheiaaifdjpeaaGreatCSndOf
import Derived.Test.YtiheiaaifdjpeaaGreatCSndND
import Derived.Test.YtiheiaaifdjpeaaGreatCSndPh
set_option linter.unusedVariables false
set_option linter.unusedSimpArgs false
set_option linter.unusedSectionVars false
set_option maxHeartbeats 1000000
namespace Go.Proofs.YtiheiaaifdjpeaaGreat
open Go.RowKit Go.Shelf
attribute [local go_sem] Oper.semAt_some
def askNo : Nat → Nat
 | 17 => 100
 | 18 => 101
 | 19 => 102
 | 20 => 103
 | _ => 0
def encR (r : Nat) : Array Value := #[.int .u8 r, .func (.func (askNo r)) #[] #[]]
def rulesL : List Nat := [17, 18, 19, 20]
abbrev RuleX : Type := { r : Nat // r ∈ rulesL }
def encX (x : RuleX) : Array Value := encR x.1
theorem rules_1_in (n : Nat) (hn : 1 ≤ n) (l : Nat) (Kp : World → World → Prop) (J Jx : List RuleX → World → Prop)
  (hY : ∀ pre x W, J pre W → pre.length < 4 → YieldAt Fence.wide (n - 1) Tryz.prog l (encX x) W fun e W' =>
   (e = .returned (.bool true) ∧ J (pre ++ [x]) W' ∧ Kp W W') ∨ (e = .returned (.bool false) ∧ Jx (pre ++ [x]) W'))
  (W : World) (h0 : J [] W) :
  CallsIn Fence.wide n Tryz.prog 99 #[.func (.yield l) #[] #[]] W fun e W' => (∃ v, e = .returned v) ∧
   ((∃ xs, xs.map (·.1) = rulesL ∧ J xs W') ∨ (∃ pre, (pre.map (·.1) <+: rulesL) ∧ Jx pre W')) := by
 refine callsIn_of_wp Tryz.func99 rfl trivial ?_ rfl
 simp only [Tryz.ntmps99, List.size_toArray, List.length_cons, List.length_nil, Nat.reduceAdd, Nat.reduceSub, Array.replicate_succ, Array.replicate_zero, List.push_toArray, List.append_toArray, List.nil_append, List.cons_append]
 have HY := Lib.hid hY
 clear hY
 have hY17 := HY.out [] ⟨17, by simp [rulesL]⟩ W h0 (by simp)
 rw [show encX ⟨17, by simp [rulesL]⟩ = #[.int .u8 17, .func (.func 100) #[] #[]] from rfl] at hY17
 obtain ⟨fn17, tmps17, assign17, body17, hy17, hR17⟩ := hY17
 gi_wp2
 refine hR17.mono ?_
 clear hR17
 rintro e W17 (⟨rfl, hJ17, -⟩ | ⟨rfl, hX⟩)
 rotate_left
 ·gi_wp2
  repeat (refine ⟨(fun f hf => by cases hf), ?_⟩; gi_wp2)
  go_end0
  exact ⟨⟨_, rfl⟩, .inr ⟨_, ⟨[18, 19, 20], rfl⟩, hX⟩⟩
 have hY18 := HY.out [⟨17, by simp [rulesL]⟩] ⟨18, by simp [rulesL]⟩ W17 hJ17 (by simp)
 rw [show encX ⟨18, by simp [rulesL]⟩ = #[.int .u8 18, .func (.func 101) #[] #[]] from rfl] at hY18
 obtain ⟨fn18, tmps18, assign18, body18, hy18, hR18⟩ := hY18
 gi_wp2
 refine hR18.mono ?_
 clear hR18
 rintro e W18 (⟨rfl, hJ18, -⟩ | ⟨rfl, hX⟩)
 rotate_left
 ·gi_wp2
  repeat (refine ⟨(fun f hf => by cases hf), ?_⟩; gi_wp2)
  go_end0
  exact ⟨⟨_, rfl⟩, .inr ⟨_, ⟨[19, 20], rfl⟩, hX⟩⟩
 have hY19 := HY.out [⟨17, by simp [rulesL]⟩, ⟨18, by simp [rulesL]⟩] ⟨19, by simp [rulesL]⟩ W18 hJ18 (by simp)
 rw [show encX ⟨19, by simp [rulesL]⟩ = #[.int .u8 19, .func (.func 102) #[] #[]] from rfl] at hY19
 obtain ⟨fn19, tmps19, assign19, body19, hy19, hR19⟩ := hY19
 gi_wp2
 refine hR19.mono ?_
 clear hR19
 rintro e W19 (⟨rfl, hJ19, -⟩ | ⟨rfl, hX⟩)
 rotate_left
 ·gi_wp2
  repeat (refine ⟨(fun f hf => by cases hf), ?_⟩; gi_wp2)
  go_end0
  exact ⟨⟨_, rfl⟩, .inr ⟨_, ⟨[20], rfl⟩, hX⟩⟩
 have hY20 := HY.out [⟨17, by simp [rulesL]⟩, ⟨18, by simp [rulesL]⟩, ⟨19, by simp [rulesL]⟩] ⟨20, by simp [rulesL]⟩ W19 hJ19 (by simp)
 rw [show encX ⟨20, by simp [rulesL]⟩ = #[.int .u8 20, .func (.func 103) #[] #[]] from rfl] at hY20
 obtain ⟨fn20, tmps20, assign20, body20, hy20, hR20⟩ := hY20
 gi_wp2
 refine hR20.mono ?_
 clear hR20
 rintro e W20 (⟨rfl, hJ20, -⟩ | ⟨rfl, hX⟩)
 rotate_left
 ·gi_wp2
  repeat (refine ⟨(fun f hf => by cases hf), ?_⟩; gi_wp2)
  go_end0
  exact ⟨⟨_, rfl⟩, .inr ⟨_, ⟨[], rfl⟩, hX⟩⟩
 gi_wp2
 go_end0
 exact ⟨⟨_, rfl⟩, .inl ⟨_, rfl, hJ20⟩⟩
theorem rules_stops (n : Nat) (hn : 1 ≤ n) (Kp : World → World → Prop) (w : World) :
  SeqStopsK Fence.wide n Tryz.prog 99 #[] encX Kp (fun xs => xs.map (·.1) = rulesL) (fun pre => pre.map (·.1) <+: rulesL) 4 w := fun l J Jx W _ _ _ hY h0 =>
 rules_1_in n hn l Kp J Jx hY W h0
theorem rules_any (w : World) : Calls Tryz.prog 83 #[] w fun e w' => e = .returned (.func (.func 99) #[] #[]) ∧ w = w' := by
 go_enter Tryz.func83, Tryz.ntmps83
 go_wp2
 go_ret
 exact ⟨rfl, rfl⟩
theorem ask_any (r : Nat) (hr : r ∈ rulesL) (f : GFun) (b B : Nat) (w : World) (h : Body w B b f) (hB : B ≤ w.heap.size) (hok : FOk f) :
  Calls Tryz.prog (askNo r) #[.pointer (some ⟨b, 0, none⟩)] w fun e w' => e = .returned (resV (sndRule f r)) ∧ Below w.heap.size w w' := by
 simp only [rulesL, List.mem_cons, List.not_mem_nil, or_false] at hr
 rcases hr with rfl | rfl | rfl | rfl
 ·exact entryPred_any f b B w h hB hok.ne
 ·exact unreached_any f b B w h hB hok.of hok.ne
 ·exact phiPreds_any f b B w h hB hok.of.len (GOk.back (succG f.blocks) (by rw [succG_length]; exact hok.of.len))
 ·exact notDom_any f b B w h hB hok
theorem enters_ask (r : Nat) (hr : r ∈ rulesL) : ∀ args w, (callFunc (askNo r) args).run Tryz.prog w = .ok (.enter (askNo r) args) w := by
 simp only [rulesL, List.mem_cons, List.not_mem_nil, or_false] at hr
 rcases hr with rfl | rfl | rfl | rfl
 ·exact enters_of Tryz.func100 (by kernel_rfl) rfl
 ·exact enters_of Tryz.func101 (by kernel_rfl) rfl
 ·exact enters_of Tryz.func102 (by kernel_rfl) rfl
 ·exact enters_of Tryz.func103 (by kernel_rfl) rfl
theorem sndR_none {p : GProg} {r : Nat} (h : ∀ j, j < p.length → ∀ f, p[j]? = some f → sndRule f r = none) : sndR p r = none :=
 firstOf_none fun j hj f hf => by rw [h j hj f hf]; rfl
theorem sndR_some {p : GProg} {r i : Nat} {f : GFun} {q : Nat × Nat} (h : ∀ j, j < i → ∀ f, p[j]? = some f → sndRule f r = none) (hf : p[i]? = some f) (hq : sndRule f r = some q) : sndR p r = some (i, q.1, q.2) :=
 firstOf_some (fun j hj f hf => by rw [h j hj f hf]; rfl) hf (by rw [hq]; rfl)
theorem sndChk_none {p : GProg} (h0 : (namesChk p).1 = 0) (h : ∀ r ∈ rulesL, sndR p r = none) : sndChk p = if 65536 < nVars p ∨ 65536 < nFlds p then (21, (0, 0, 0)) else (0, (0, 0, 0)) := by
 unfold sndChk
 rw [if_neg (by simp [h0])]
 have : (firstOf [17, 18, 19, 20] fun _ r => (sndR p r).map fun pt => (r, pt)) = none := firstOf_none fun j hj r hr => by
  rw [h r (List.mem_of_getElem? hr)]; rfl
 rw [this]
theorem sndChk_some {p : GProg} (h0 : (namesChk p).1 = 0) {ys : List Nat} {r : Nat} {pt : GPt} (hp : ys ++ [r] <+: rulesL) (h : ∀ r' ∈ ys, sndR p r' = none) (hr : sndR p r = some pt) : sndChk p = (r, pt) := by
 unfold sndChk
 rw [if_neg (by simp [h0])]
 obtain ⟨t, ht⟩ := hp
 have : (firstOf [17, 18, 19, 20] fun _ r => (sndR p r).map fun pt => (r, pt)) = some (r, pt) := by
  refine firstOf_some (n := ys.length) (x := r) (fun j hj y hy => ?_) ?_ (by rw [hr]; rfl)
  ·have e : rulesL[j]? = some y := hy
   rw [← ht, List.append_assoc, List.getElem?_append_left hj] at e
   rw [h y (List.mem_of_getElem? e)]; rfl
  ·have : rulesL[ys.length]? = some r := by rw [← ht, List.append_assoc, List.getElem?_append_right (Nat.le_refl _)]; simp
   exact this
 rw [this]
end Go.Proofs.YtiheiaaifdjpeaaGreat

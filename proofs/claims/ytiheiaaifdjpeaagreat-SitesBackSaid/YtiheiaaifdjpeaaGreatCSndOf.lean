/- The contract of sound.of: what is known of a function. Conditions: the function lies in memory; its blocks end as they must. -/
import Derived.Test.YtiheiaaifdjpeaaGreatCSat
import Derived.Deep.DeepCutAuto
set_option linter.unusedVariables false
set_option linter.unusedSimpArgs false
set_option linter.unusedSectionVars false
set_option maxHeartbeats 4000000
set_option maxRecDepth 100000
namespace Go.Proofs.YtiheiaaifdjpeaaGreat
open Go.RowKit Go.Shelf
def Agr (Q : Nat → Prop) (w w' : World) : Prop := w.heap.size ≤ w'.heap.size ∧ ∀ k, k < w.heap.size → ¬ Q k → w'.heap[k]? = w.heap[k]?
theorem Agr.trans {Q Q' : Nat → Prop} {w1 w2 w3 : World} (h : Agr Q w1 w2) (h' : Agr Q' w2 w3) (hq : ∀ k, k < w1.heap.size → Q' k → Q k) : Agr Q w1 w3 :=
 ⟨Nat.le_trans h.1 h'.1, fun k hk hn => (h'.2 k (Nat.lt_of_lt_of_le hk h.1) (fun e => hn (hq k hk e))).trans (h.2 k hk hn)⟩
theorem Agr.grown {Q : Nat → Prop} {w w' : World} {row : Option Nat} (h : w.grownBy w' row) (hq : ∀ r, row = some r → Q r) : Agr Q w w' :=
 ⟨h.size, fun k hk hn => h.block k hk fun e => hn (hq k e.symm)⟩
def BodyF (Q : Nat → Prop) (w : World) (b : Nat) (f : GFun) : Prop := ∀ w', Agr Q w w' → Body w' w'.heap.size b f
def SndOut (B : Nat) (f : GFun) (w : World) (e : Ending) (w' : World) : Prop := ∃ b, e = .returned (.pointer (some ⟨b, 0, none⟩)) ∧ (∀ Q : Nat → Prop, (∀ k, k < w'.heap.size → Q k → B ≤ k ∧ k < w.heap.size) → BodyF Q w' b f) ∧ w.heap.size ≤ b ∧ Below w.heap.size w w'
structure SP (w : World) (B B1 b : Nat) (f : GFun) (A1 : Option Addr) (d1 : Nat) (A2 : Option Addr) (d2 S S2 O M : Nat) (order : List Nat) (o : Out) (m : Defs) (wr : World) : Prop where
 blk : wr.heap[b]? = some (.cells #[.string ⟨f.name.toArray⟩, .slice A1 f.params.length d1, .slice A2 f.blocks.length d2, .slice (some ⟨S, 0, none⟩) f.blocks.length f.blocks.length, .slice (some ⟨S2, 0, none⟩) f.blocks.length f.blocks.length, .slice (some ⟨O, 0, none⟩) f.blocks.length f.blocks.length, .map (some M)] 162 (0, 0))
 fn : FunAt wr B f (.slice A1 f.params.length d1) (.slice A2 f.blocks.length d2)
 succ : GraphAt wr B1 (.slice (some ⟨S, 0, none⟩) f.blocks.length f.blocks.length) (succG f.blocks)
 pred : GraphAt wr B1 (.slice (some ⟨S2, 0, none⟩) f.blocks.length f.blocks.length) (backG (succG f.blocks))
 tree : TreeAt wr wr.heap.size O (succG f.blocks) order o
 map : wr.heap[M]? = some (mobj encS encPl m)
 low : Below w.heap.size w wr
 b1 : w.heap.size < B1
 f0 : wr.heap[w.heap.size]? = some (.cells #[.string ⟨f.name.toArray⟩, .slice A1 f.params.length d1, .slice A2 f.blocks.length d2] 58 (0, 0))
 b2 : B1 ≤ M
 b3 : M ≠ O
 b4 : M ≠ b
 b5 : w.heap.size ≤ b
 b6 : w.heap.size ≤ S
 b7 : w.heap.size ≤ S2
 b8 : w.heap.size ≤ O
 fr : ∃ (w3 : World) (base base2 : Nat), w3.heap.size = B1 ∧ Below B1 w3 wr ∧ OwnG base w3 S (succG f.blocks) ∧ OwnG base2 w3 S2 (backG (succG f.blocks))
theorem SP.grow {w : World} {B B1 b : Nat} {f : GFun} {A1 : Option Addr} {d1 : Nat} {A2 : Option Addr} {d2 S S2 O M : Nat} {order : List Nat} {o : Out} {m : Defs} {wr wr' : World} (h : SP w B B1 b f A1 d1 A2 d2 S S2 O M order o m wr) (hg : wr.grownBy wr' none) (hB : B ≤ w.heap.size) :
  SP w B B1 b f A1 d1 A2 d2 S S2 O M order o m wr' where
 blk := (hg.block b (seen_lt h.blk) (by simp)).trans h.blk
 fn := h.fn.below (grown_none hg) (by have := h.low.size; omega)
 succ := h.succ.below rowR.keeps (grown_none hg) (by have := seen_lt h.map; have := h.b2; omega)
 pred := h.pred.below rowR.keeps (grown_none hg) (by have := seen_lt h.map; have := h.b2; omega)
 tree := (h.tree.below (grown_none hg) (Nat.le_refl _)).more hg.size
 map := (hg.block M (seen_lt h.map) (by simp)).trans h.map
 low := grown_below h.low hg (by have := h.low.size; omega) (fun r e => by cases e)
 b1 := h.b1
 f0 := (hg.block _ (seen_lt h.f0) (by simp)).trans h.f0
 b2 := h.b2
 b3 := h.b3
 b4 := h.b4
 b5 := h.b5
 b6 := h.b6
 b7 := h.b7
 b8 := h.b8
 fr := by
  obtain ⟨w3, base, base2, h1, h2, h3⟩ := h.fr
  exact ⟨w3, base, base2, h1, h2.trans ((grown_none hg).mono (by have := seen_lt h.map; have := h.b2; omega)), h3⟩
theorem SP.put {w : World} {B B1 b : Nat} {f : GFun} {A1 : Option Addr} {d1 : Nat} {A2 : Option Addr} {d2 S S2 O M : Nat} {order : List Nat} {o : Out} {m m' : Defs} {wr : World} (h : SP w B B1 b f A1 d1 A2 d2 S S2 O M order o m wr) (hB : B ≤ w.heap.size) :
  SP w B B1 b f A1 d1 A2 d2 S S2 O M order o m' (wr.putObj M (mobj encS encPl m')) := by
 have hb : Below B1 wr (wr.putObj M (mobj encS encPl m')) := (Turned.putObj wr M _).below (Below.refl B1 wr) h.b2
 have hl := h.low.size
 have h1 := h.b1
 exact {
  blk := (World.putObj_heap_other h.b4.symm).trans h.blk
  fn := h.fn.below hb (by omega)
  succ := h.succ.below rowR.keeps hb (Nat.le_refl _)
  pred := h.pred.below rowR.keeps hb (Nat.le_refl _)
  tree := ⟨by simpa [World.putObj] using h.tree.lt, (World.putObj_heap_other h.b3.symm).trans h.tree.blk, h.tree.rpo, h.tree.ok, h.tree.nodes⟩
  map := putObj_same h.map _
  low := h.low.trans (hb.mono (by omega))
  f0 := (World.putObj_heap_other (by have := h.b2; omega)).trans h.f0
  b1 := h.b1, b2 := h.b2, b3 := h.b3, b4 := h.b4, b5 := h.b5, b6 := h.b6, b7 := h.b7, b8 := h.b8
  fr := by
   obtain ⟨w3, base, base2, h1, h2, h3⟩ := h.fr
   exact ⟨w3, base, base2, h1, h2.trans hb, h3⟩ }
theorem OwnG.agr {base S lo : Nat} {w w' : World} {L : List (List Nat)} {Q : Nat → Prop} (h : OwnG base w S L) (hg : Agr Q w w') (hS : lo ≤ S) (hQ : ∀ k, k < w.heap.size → Q k → k < lo) : OwnG base w' S L := by
 obtain ⟨vs, h1, hh, h2, h3, h4⟩ := h
 have hk : ∀ k, k < w.heap.size → lo ≤ k → w'.heap[k]? = w.heap[k]? := fun k hk hl => hg.2 k hk fun e => by have := hQ k hk e; omega
 exact ⟨vs, h1, (hk S (seen_lt hh) hS).trans hh, h2, fun j v l a b => by
  have h9 := h3 j v l a b
  exact ⟨h9.1, h9.2.imp id fun ⟨g, cap, cur, e, hb, hh', r⟩ => ⟨g, cap, cur, e, hb, (hk g (seen_lt hh') (by omega)).trans hh', r⟩⟩, h4⟩
theorem SP.done {w : World} {B B1 b : Nat} {f : GFun} {A1 : Option Addr} {d1 : Nat} {A2 : Option Addr} {d2 S S2 O M : Nat} {order : List Nat} {o : Out} {wr : World} (h : SP w B B1 b f A1 d1 A2 d2 S S2 O M order o (defsF f) wr) (hB : B ≤ w.heap.size) (hok : OfOk f.blocks)
  (Q : Nat → Prop) (hQ : ∀ k, k < wr.heap.size → Q k → B ≤ k ∧ k < w.heap.size) : BodyF Q wr b f := by
 intro w' hg
 have hM := seen_lt h.map
 have h1 := h.b1
 have h2 := h.b2
 have h5 := h.b5
 have h6 := h.b6
 have h7 := h.b7
 have h8 := h.b8
 have hn := hok.len
 have hl := h.low.size
 have hs := hg.1
 have hkeep : ∀ k, w.heap.size ≤ k → k < wr.heap.size → w'.heap[k]? = wr.heap[k]? := fun k hk1 hk2 => hg.2 k hk2 (fun e => by have := (hQ k hk2 e).2; omega)
 have hlowk : ∀ k, k < B → w'.heap[k]? = wr.heap[k]? := fun k hk1 => hg.2 k (by omega) (fun e => by have := (hQ k (by omega) e).1; omega)
 have hgk := succG_ok hok
 have hgb := GOk.back (succG f.blocks) (by rw [succG_length]; exact hn)
 obtain ⟨w3, base, base2, e3, hb3, ho1, ho2⟩ := h.fr
 have ho1' := ((ho1.below (by rw [e3]; exact hb3)).agr hg h6 (fun k hk e => (hQ k hk e).2)).graph (n := f.blocks.length) (succG_length _).symm (by unfold maxLen; omega) (fun r hr x hx => by have := hgk.lt r hr x hx; rw [succG_length] at this; omega)
 have ho2' := ((ho2.below (by rw [e3]; exact hb3)).agr hg h7 (fun k hk e => (hQ k hk e).2)).graph (n := f.blocks.length) (by rw [backG_length, succG_length]) (by unfold maxLen; omega) (fun r hr x hx => by have := hgb.lt r hr x hx; rw [backG_length, succG_length] at this; omega)
 have hO := h.tree.lt
 have hbl := seen_lt h.blk
 exact ⟨A1, d1, A2, d2, S, S2, O, M, order, o, by omega, (hkeep b h5 hbl).trans h.blk, (h.fn.keep (fun p hp => World.cell?_of_block (hlowk p.block hp))).more (by omega), ho1', ho2',
  ⟨by omega, (hkeep O h8 hO).trans h.tree.blk, h.tree.rpo, h.tree.ok, h.tree.nodes⟩, (hkeep M (by omega) hM).trans h.map, by omega⟩
theorem SP.start {w w3 wr : World} {B b : Nat} {f : GFun} {A1 : Option Addr} {d1 : Nat} {A2 : Option Addr} {d2 S S2 O M : Nat} {order : List Nat} {o : Out} (hB : B ≤ w.heap.size) (hb3 : Below w.heap.size w w3) (hb : Below w3.heap.size w3 wr) (hf0 : w3.heap[w.heap.size]? = some (.cells #[.string ⟨f.name.toArray⟩, .slice A1 f.params.length d1, .slice A2 f.blocks.length d2] 58 (0, 0)))
  (h : FunAt w B f (.slice A1 f.params.length d1) (.slice A2 f.blocks.length d2))
  (hG : GraphAt w3 w3.heap.size (.slice (some ⟨S, 0, none⟩) f.blocks.length f.blocks.length) (succG f.blocks))
  (hG2 : GraphAt w3 w3.heap.size (.slice (some ⟨S2, 0, none⟩) f.blocks.length f.blocks.length) (backG (succG f.blocks)))
  (h1 : wr.heap[O]? = some (.cells (treeV o 0).toArray 3 (0, 0))) (h2 : RPO (succG f.blocks) 0 order) (h3 : TreeOk (succG f.blocks) 0 order o) (h4 : ∀ x ∈ order, x < (succG f.blocks).length)
  (hbl : wr.heap[b]? = some (.cells #[.string ⟨f.name.toArray⟩, .slice A1 f.params.length d1, .slice A2 f.blocks.length d2, .slice (some ⟨S, 0, none⟩) f.blocks.length f.blocks.length, .slice (some ⟨S2, 0, none⟩) f.blocks.length f.blocks.length, .slice (some ⟨O, 0, none⟩) f.blocks.length f.blocks.length, .map (some M)] 162 (0, 0)))
  (hm : wr.heap[M]? = some (mobj encS encPl [])) (b2 : w3.heap.size ≤ M) (b3 : M ≠ O) (b4 : M ≠ b) (b5 : w.heap.size ≤ b) (b6 : w.heap.size ≤ S) (b7 : w.heap.size ≤ S2) (b8 : w.heap.size ≤ O) {base base2 : Nat} (ho1 : OwnG base w3 S (succG f.blocks)) (ho2 : OwnG base2 w3 S2 (backG (succG f.blocks))) :
  SP w B w3.heap.size b f A1 d1 A2 d2 S S2 O M order o [] wr where
 blk := hbl
 fn := (h.below hb3 hB).below hb (by have := hb3.size; omega)
 succ := hG.below rowR.keeps hb (Nat.le_refl _)
 pred := hG2.below rowR.keeps hb (Nat.le_refl _)
 tree := ⟨seen_lt h1, h1, h2, h3, h4⟩
 map := hm
 low := hb3.trans (hb.mono hb3.size)
 b1 := seen_lt hf0
 f0 := (hb.block _ (seen_lt hf0)).trans hf0
 b2 := b2
 b3 := b3
 b4 := b4
 b5 := b5
 b6 := b6
 b7 := b7
 b8 := b8
 fr := ⟨w3, base, base2, rfl, hb, ho1, ho2⟩
theorem grown_drew' {w w' : World} {row : Option Nat} (h : w.grownBy w' row) : w.grownBy w'.drew row := ⟨h.os, h.tape, h.output, h.size, h.block⟩
theorem sndOf_any (f : GFun) (vp vb : Value) (B : Nat) (w : World) (hB : B ≤ w.heap.size) (h : FunAt w B f vp vb) (hok : OfOk f.blocks) (hne : f.blocks ≠ []) :
  Calls Tryz.prog 82 #[.agg #[.string ⟨f.name.toArray⟩, vp, vb]] w fun e w' => SndOut B f w e w' := by
 have hn := hok.len
 obtain ⟨A1, d1, rfl, m1, _, _, hP⟩ := h.params.open_
 obtain ⟨A2, d2, rfl, m2, _, _, hA⟩ := h.blocks.open_
 have hF : w.heap.size < (w.alloc (.cells #[.string ⟨f.name.toArray⟩, .slice A1 f.params.length d1, .slice A2 f.blocks.length d2] 58)).heap.size := by simp
 have hof := of_any f (.slice A1 f.params.length d1) (.slice A2 f.blocks.length d2) B (w.alloc (.cells #[.string ⟨f.name.toArray⟩, .slice A1 f.params.length d1, .slice A2 f.blocks.length d2] 58)) (by simp; omega) (h.below ((Below.refl B w).alloc (by omega) _) (Nat.le_refl _)) hok
 have hf0 := World.alloc_heap_new w (.cells #[.string ⟨f.name.toArray⟩, .slice A1 f.params.length d1, .slice A2 f.blocks.length d2] 58)
 have hb0 : Below w.heap.size w (w.alloc (.cells #[.string ⟨f.name.toArray⟩, .slice A1 f.params.length d1, .slice A2 f.blocks.length d2] 58)) := (Below.refl _ w).alloc (Nat.le_refl _) _
 go_enter Tryz.func82, Tryz.ntmps82
 go_upto_region 1 with (fail)
 repeat go_step
 refine hof.mono ?_
 rintro e w2 ⟨S, S2, base, base2, rfl, hS, hS2, hG, hG2, hb2⟩
 have hf2 := (hb2.block _ hF).trans hf0
 have hb2' := hb0.trans (hb2.mono (by simp))
 have hsz2 := hb2.size
 simp only [World.size_alloc] at hS hS2 hsz2
 have hgk := succG_ok hok
 have hlS := hG.lt
 have hlS2 := hG2.lt
 clear hF hf0 hb0 hof
 go_upto_region 2 with (fail)
 obtain ⟨w3, hw3⟩ : ∃ w3 : World, w3 = w2.alloc (.cells #[.slice (some ⟨S, 0, none⟩) f.blocks.length f.blocks.length, .slice (some ⟨S2, 0, none⟩) f.blocks.length f.blocks.length] 156) := ⟨_, rfl⟩
 have hg3 : w2.grownBy w3 none := by rw [hw3]; exact World.grownBy_alloc _ _ _
 have hs3 : w3.heap.size = w2.heap.size + 1 := by rw [hw3]; simp
 have x1 : w3.heap[w.heap.size]? = some (.cells #[.string ⟨f.name.toArray⟩, .slice A1 f.params.length d1, .slice A2 f.blocks.length d2] 58 (0, 0)) := (hg3.block _ (by omega) (by simp)).trans hf2
 have x2 : w3.heap[w2.heap.size]? = some (.cells #[.slice (some ⟨S, 0, none⟩) f.blocks.length f.blocks.length, .slice (some ⟨S2, 0, none⟩) f.blocks.length f.blocks.length] 156 (0, 0)) := by rw [hw3]; exact World.alloc_heap_new _ _
 have hG' := (hG.kept hg3).graph (n := f.blocks.length) (succG_length _).symm (by unfold maxLen; omega) (fun r hr x hx => by have := hgk.lt r hr x hx; rw [succG_length] at this; omega)
 have hG2' := (hG2.kept hg3).graph (n := f.blocks.length) (by rw [backG_length, succG_length]) (by unfold maxLen; omega) (fun r hr x hx => by have := (GOk.back (succG f.blocks) (by rw [succG_length]; exact hn)).lt r hr x hx; rw [backG_length, succG_length] at this; omega)
 have hb3 : Below w.heap.size w w3 := hb2'.trans ((grown_none hg3).mono (by omega))
 rw [← hw3]
 have h0 : 0 < (succG f.blocks).length := by rw [succG_length]; exact List.length_pos_iff.2 hne
 have htree : ∀ W : World, w3.grownBy W none → Calls Tryz.prog 98 #[.slice (some ⟨S, 0, none⟩) f.blocks.length f.blocks.length, .int .i64 0] W fun e w' => TreeOut (succG f.blocks) 0 W e w' :=
  fun W hg => tree_any _ (succG f.blocks) 0 w3.heap.size W hg.size (hG'.below rowR.keeps (grown_none hg) (Nat.le_refl _)) hgk h0
 have hs0 : w.heap.size < w3.heap.size := by omega
 have hs02 : w2.heap.size < w3.heap.size := by omega
 have HG := Lib.hid hG'
 have Ho1 := Lib.hid (hG.kept hg3)
 have Ho2 := Lib.hid (hG2.kept hg3)
 have Hok := Lib.hid hok
 have HG2 := Lib.hid hG2'
 have Hb3 := Lib.hid hb3
 have Hh := Lib.hid h
 have Hhne := Lib.hid hne
 have HP := Lib.hid hP
 have HA := Lib.hid hA
 have hwB : w.heap.size + 1 ≤ w2.heap.size := by omega
 clear hw3 hg3 hs3 hG hG2 hG' hG2' hb2 hf2 hb2' hb3 h hne hP hA h0 hgk hok hlS hlS2 hsz2
 go_cut [5] (fun s5 wx => ∃ (b O M : Nat) (order : List Nat) (o : Out), s5 = .pointer (some ⟨b, 0, none⟩) ∧ Hid (SP w B w3.heap.size b f A1 d1 A2 d2 S S2 O M order o [] wx))
 case first =>
  obtain ⟨y1, _⟩ := blk_facts x1
  obtain ⟨y2, _⟩ := blk_facts x2
  have hmm : ∀ w : World, (Instr.makeMap 160 none).run Tryz.prog w = .ok (.map (some w.heap.size)) (w.alloc (mobj encS encPl [])) := @run_makeMap Tryz.prog 160
  go_region_held3 (fun w' => w'.cell? ⟨w.heap.size, 0, none⟩ = some (.string ⟨f.name.toArray⟩) ∧ w'.cell? ⟨w.heap.size, 1, none⟩ = some (.slice A1 f.params.length d1) ∧ w'.cell? ⟨w.heap.size, 2, none⟩ = some (.slice A2 f.blocks.length d2) ∧ w'.cell? ⟨w2.heap.size, 0, none⟩ = some (.slice (some ⟨S, 0, none⟩) f.blocks.length f.blocks.length) ∧ w'.cell? ⟨w2.heap.size, 1, none⟩ = some (.slice (some ⟨S2, 0, none⟩) f.blocks.length f.blocks.length))
   (first | exact ⟨y1 0, y1 1, y1 2, y2 0, y2 1⟩ | exact ⟨v1 0, v1 1, v1 2, v2 0, v2 1⟩ | go_keep)
   (first | (go_at_call 98; refine (htree _ ?_).mono ?_; (· repeat (first | exact World.grownBy.refl _ _ | refine grown_drew' ?_ | refine grown_alloc ?_ _)); rintro e w4 ⟨O, order, o, rfl, hO, hblk, hR, hT, hx, hb4⟩; have z1 := (hb4.block w.heap.size (by simp; omega)).trans (by first | exact x1 | exact seen_alloc x1 _); have z2 := (hb4.block w2.heap.size (by simp; omega)).trans (by first | exact x2 | exact seen_alloc x2 _); obtain ⟨v1, _⟩ := blk_facts z1; obtain ⟨v2, _⟩ := blk_facts z2; have Hblk := Lib.hid hblk; have HR := Lib.hid hR; have HT := Lib.hid hT; have Hx := Lib.hid hx; have Hb4 := Lib.hid hb4; clear z1 z2 hblk hR hT hx hb4))
  all_goals (go_wp2_with fail; go_meet)
  ·have hs4 := Hb4.out.size
   simp at hs4 hO
   refine ⟨w4.heap.size + 1, O, w4.heap.size, order, o, rfl, Lib.hid (SP.start hB Hb3.out ?_ x1 Hh.out HG.out HG2.out ?_ HR.out HT.out Hx.out ?_ ?_ (by omega) ?_ (by omega) (by omega) (by omega) (by omega) (by omega) Ho1.out Ho2.out)⟩
   ·have h4 : Below w3.heap.size w3 w4 := (grown_none (grown_drew' (World.grownBy.refl w3 none))).trans Hb4.out
    exact (h4.alloc (by omega) _).alloc (by simp; omega) _
   ·exact seen_alloc (seen_alloc Hblk.out _) _
   ·rw [succG_length]
    have h9 := fun ob => World.alloc_heap_new (w4.alloc (mobj encS encPl [])) ob
    simp only [World.size_alloc] at h9
    exact h9 _
   ·exact seen_alloc (World.alloc_heap_new w4 _) _
   ·have := seen_lt Hblk.out
    omega
  ·have hs4 := Hb4.out.size
   simp at hs4 hO
   have hm4 := (Hb4.out.block w3.heap.size (by simp)).trans (show ((w3.alloc (mobj encS encPl [])).drew).heap[w3.heap.size]? = _ from World.alloc_heap_new w3 _)
   refine ⟨w4.heap.size, O, w3.heap.size, order, o, rfl, Lib.hid (SP.start hB Hb3.out ?_ x1 Hh.out HG.out HG2.out ?_ HR.out HT.out Hx.out ?_ ?_ (by omega) (by omega) (by omega) (by omega) (by omega) (by omega) (by omega) Ho1.out Ho2.out)⟩
   ·have h4 : Below w3.heap.size w3 w4 := (grown_none (grown_drew' (World.grownBy_alloc w3 _ none))).trans (Hb4.out.mono (by simp))
    exact h4.alloc (by omega) _
   ·exact seen_alloc Hblk.out _
   ·rw [succG_length]
    exact World.alloc_heap_new w4 _
   ·exact seen_alloc hm4 _
 case rest =>
  obtain ⟨b, O, M, order, o, rfl, hI⟩ := hcut
  obtain ⟨y1, _⟩ := blk_facts hI.out.f0
  have z1 : wc.cell? ⟨w.heap.size, 1, none⟩ = some (.slice A1 f.params.length d1) := y1 1
  clear x1 x2 htree HG HG2 Hb3
  clear y1
  go_wp2_with fail
  go_loopw [28] (fun s8 wr => ∃ k : Nat, k ≤ f.params.length ∧ s8 = .int .i64 k ∧ Hid (SP w B w3.heap.size b f A1 d1 A2 d2 S S2 O M order o (defPar (f.params.take k)) wr)) (fun s8 _ => f.params.length - (intOf s8).toNat)
  case atStart => exact ⟨0, Nat.zero_le _, rfl, hI⟩
  case round =>
   obtain ⟨k, hkl, rfl, hJ⟩ := hrel
   clear hI z1
   obtain ⟨j1, _⟩ := blk_facts hJ.out.blk
   have e6 : wr.cell? ⟨b, 6, none⟩ = some (.map (some M)) := j1 6
   by_cases hl : k < f.params.length
   ·obtain ⟨s, b7, off7, hs, rfl, hb7, hr7⟩ := HP.out.at1 hl
    have c7 := cur hJ.out.low (by omega) hr7.1
    have hrun := run_mapSet (P := Tryz.prog) (keyS Tryz.underlying9) Tryz.underlying160 hJ.out.map s ((-1 : Int), 0)
    have hnext := hJ.out.put (m' := aset (defPar (f.params.take k)) s (-1, 0)) hB
    rw [← defPar_more hs] at hrun hnext
    simp only [encS, encPl] at hrun
    rw [show ((0 : Nat) : Int) = 0 from rfl] at hrun
    have Hnext := Lib.hid hnext
    clear hnext hr7 j1 hs
    go_wp2_with fail
    go_roundw
    case rel => exact ⟨k + 1, by omega, by go_num, Hnext⟩
    case measure => simp [intOf]; omega
   ·have hk : k = f.params.length := by omega
    subst hk
    rw [List.take_length] at hJ
    obtain ⟨y1, _⟩ := blk_facts hJ.out.f0
    have z2 : wr.cell? ⟨w.heap.size, 2, none⟩ = some (.slice A2 f.blocks.length d2) := y1 2
    clear j1 y1 e6
    go_wp2_with fail
    go_loopw [42] (fun s8 wr => ∃ k : Nat, k ≤ f.blocks.length ∧ s8 = .int .i64 k ∧ Hid (SP w B w3.heap.size b f A1 d1 A2 d2 S S2 O M order o (defBlks (f.blocks.take k) (defPar f.params)) wr)) (fun s8 _ => f.blocks.length - (intOf s8).toNat)
    case atStart => exact ⟨0, Nat.zero_le _, rfl, hJ⟩
    case round =>
     obtain ⟨k, hkl, rfl, hI⟩ := hrel
     clear hJ z2
     by_cases hl : k < f.blocks.length
     ·obtain ⟨y, b1, off1, hy, rfl, hbB1, hr1⟩ := HA.out.at_ hl
      obtain ⟨A5, d5, hyy, m5, e0, e1⟩ := blkR_open hr1
      have hlow := hI.out.low
      have hbn1 : b1 ≠ wr.heap.size := by have := hlow.size; omega
      have hbl1 : b1 < wr.heap.size := by have := hlow.size; omega
      replace e0 := cur hlow (by omega) e0
      replace e1 := cur hlow (by omega) e1
      have Hyy := Lib.hid hyy
      have Hy := Lib.hid hy
      have h9 := Lib.hid (hI.out.grow (World.grownBy_alloc wr (.cells #[.string ⟨y.label.toArray⟩, .slice A5 y.code.length d5] 61) none) hB)
      clear hr1 hy hyy hlow
      go_wp2_with fail
      go_loopw [50] (fun s8 wr => ∃ j : Nat, j ≤ y.code.length ∧ s8 = .int .i64 j ∧ Hid (SP w B w3.heap.size b f A1 d1 (some ⟨b1, off1, none⟩) d2 S S2 O M order o (defCode k (y.code.take j) (defBlks (f.blocks.take k) (defPar f.params))) wr)) (fun s8 _ => y.code.length - (intOf s8).toNat)
      case atStart => exact ⟨0, Nat.zero_le _, rfl, h9⟩
      case round =>
       obtain ⟨j, hjl, rfl, hJ⟩ := hrel
       clear h9 hI e0 e1 hbn1 hbl1
       by_cases hl2 : j < y.code.length
       ·obtain ⟨z, b3, off3, hz, rfl, hbB3, hr3⟩ := Hyy.out.code.at_ hl2
        obtain ⟨A6, d6, A7, d7, hzz, m6, m7, g0, g1, g2, g3, g4, g5, g6, g7⟩ := insR_open hr3
        have hlow := hJ.out.low
        have hbn3 : b3 ≠ wr.heap.size := by have := hlow.size; omega
        have hbl3 : b3 < wr.heap.size := by have := hlow.size; omega
        replace g0 := cur hlow (by omega) g0
        replace g1 := cur hlow (by omega) g1
        replace g2 := cur hlow (by omega) g2
        replace g3 := cur hlow (by omega) g3
        replace g4 := cur hlow (by omega) g4
        replace g5 := cur hlow (by omega) g5
        replace g6 := cur hlow (by omega) g6
        replace g7 := cur hlow (by omega) g7
        have Hz := Lib.hid hz
        have hN := World.alloc_heap_new wr (.cells #[.int .u8 z.op, .string ⟨z.dst.toArray⟩, .string ⟨z.a.toArray⟩, .string ⟨z.b.toArray⟩, .int .i64 z.n, .string ⟨z.fn.toArray⟩, .slice A6 z.args.length d6, .slice A7 z.labels.length d7] 38)
        have i1 : (wr.alloc (.cells #[.int .u8 z.op, .string ⟨z.dst.toArray⟩, .string ⟨z.a.toArray⟩, .string ⟨z.b.toArray⟩, .int .i64 z.n, .string ⟨z.fn.toArray⟩, .slice A6 z.args.length d6, .slice A7 z.labels.length d7] 38)).cell? ⟨wr.heap.size, 1, none⟩ = some (.string ⟨z.dst.toArray⟩) := (blk_facts hN).1 1
        have h10 := hJ.out.grow (World.grownBy_alloc wr (.cells #[.int .u8 z.op, .string ⟨z.dst.toArray⟩, .string ⟨z.a.toArray⟩, .string ⟨z.b.toArray⟩, .int .i64 z.n, .string ⟨z.fn.toArray⟩, .slice A6 z.args.length d6, .slice A7 z.labels.length d7] 38) none) hB
        have H10 := Lib.hid h10
        clear hr3 hz hzz hlow hN h10 hJ
        go_upto_region 14 with (fail)
        obtain ⟨W, hW⟩ : ∃ W : World, W = wr.alloc (.cells #[.int .u8 z.op, .string ⟨z.dst.toArray⟩, .string ⟨z.a.toArray⟩, .string ⟨z.b.toArray⟩, .int .i64 z.n, .string ⟨z.fn.toArray⟩, .slice A6 z.args.length d6, .slice A7 z.labels.length d7] 38) := ⟨_, rfl⟩
        have hWs : W.heap.size = wr.heap.size + 1 := by rw [hW]; simp
        rw [← hW] at H10 i1
        rw [← hW]
        clear hW g0 g1 g2 g3 g4 g5 g6 g7 hbn3 hbl3
        have e6 : W.cell? ⟨b, 6, none⟩ = some (.map (some M)) := (blk_facts H10.out.blk).1 6
        have H11 := Lib.hid (H10.out.grow (grown_drew' (World.grownBy.refl W none)) hB)
        have hrun := run_mapSet (P := Tryz.prog) (keyS Tryz.underlying9) Tryz.underlying160 H11.out.map z.dst ((k : Int), j)
        have hnext := H11.out.put (m' := aset (defCode k (y.code.take j) (defBlks (f.blocks.take k) (defPar f.params))) z.dst ((k : Int), j)) hB
        rw [← defCode_more Hz.out] at hrun hnext
        simp only [encS, encPl] at hrun
        have Hnext := Lib.hid hnext
        clear hnext H10 H11
        go_region
        all_goals go_wp2
        all_goals go_roundw
        case rel => exact ⟨j + 1, by omega, by go_num, Hnext⟩
        case measure => simp [intOf]; omega
       ·have hj : j = y.code.length := by omega
        subst hj
        rw [List.take_length, ← defBlks_more Hy.out] at hJ
        go_wp2
        go_roundw
        case rel => exact ⟨k + 1, by omega, by go_num, hJ⟩
        case measure => simp [intOf]; omega
     ·have hk : k = f.blocks.length := by omega
      subst hk
      rw [List.take_length] at hI
      go_wp2
      go_ret
      exact ⟨b, rfl, hI.out.done hB Hok.out, hI.out.b5, hI.out.low⟩
end Go.Proofs.YtiheiaaifdjpeaaGreat

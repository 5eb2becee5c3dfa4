/- The contract of graph.Reach. Conditions: the graph lies in memory; its rows rise and name nodes; the walk begins at nodes. -/
import Derived.Test.YtpemkbjbbcnddaaGreatCGra
import Derived.Deep.LoopGhost
set_option linter.unusedVariables false
set_option linter.unusedSimpArgs false
set_option linter.unusedSectionVars false
namespace Go.Proofs.YtpemkbjbbcnddaaGreat
open Go.RowKit

structure RS (w : World) (gb O ob nb base : Nat) (A : Option Addr) (n c : Nat) (s : List Bool × List Nat) : Prop where
  g : w.heap[gb]? = some (.cells #[.slice A n c] 49 (0, 0))
  o : w.heap[ob]? = some (.cells #[.slice (some ⟨O, 0, none⟩) n n] 55 (0, 0))
  bs : w.heap[O]? = some (.cells (s.1.map Value.bool).toArray 4 (0, 0))
  nx : ∃ v, w.heap[nb]? = some (.cells #[v] 56 (0, 0)) ∧ w.ownsRow base 3 1 v s.2.length (s.2.map encN)
  len : s.1.length = n
  l1 : gb < O
  l2 : O < ob
  l3 : ob < nb
  l4 : nb < base
  l5 : base ≤ w.heap.size

theorem enterR_yes {s : List Bool × List Nat} {k : Nat} (h : s.1[k]? = some false) : enterR s k = (s.1.set k true, s.2 ++ [k]) := by rw [enterR, if_pos h]
theorem enterR_no {s : List Bool × List Nat} {k : Nat} (h : s.1[k]? = some true) : enterR s k = s := by rw [enterR, if_neg (by rw [h]; simp)]

set_option maxRecDepth 100000 in
set_option maxHeartbeats 400000 in
theorem reach_1 (k gb O ob nb base : Nat) (A : Option Addr) (n c : Nat) (s : List Bool × List Nat) (w : World) (hk : k < n) (hn : n ≤ 65536) (hl : s.2.length ≤ 1099511627776) (h : RS w gb O ob nb base A n c s) :
    Calls Tryz.prog 120 #[.int .i64 k, .pointer (some ⟨gb, 0, none⟩), .pointer (some ⟨ob, 0, none⟩), .pointer (some ⟨nb, 0, none⟩)] w fun e w' => e = .returned (.tuple #[]) ∧ RS w' gb O ob nb base A n c (enterR s k) ∧ Below gb w w' := by
  obtain ⟨v, hnx, ho⟩ := h.nx
  obtain ⟨A2, d2, rfl, _, _, _, _⟩ := owns_slice ho
  obtain ⟨g1, g2⟩ := blk_facts h.g
  obtain ⟨o1, o2⟩ := blk_facts h.o
  obtain ⟨b1, b2⟩ := blk_facts h.bs
  obtain ⟨n1, n2⟩ := blk_facts hnx
  have hl1 := h.l1
  have hl2 := h.l2
  have hl3 := h.l3
  have hl4 := h.l4
  have hl5 := h.l5
  have q1 : decide (0 ≤ (k : Int)) = true := by simp
  have q2 : decide (k < n) = true := by simpa using hk
  have q3 : O ≠ nb := by omega
  have q4 : O ≠ ob := by omega
  have q5 : ob ≠ nb := by omega
  have q6 : nb ≠ O := by omega
  have q7 : nb ≠ w.heap.size := by omega
  have hkl : k < s.1.length := by rw [h.len]; exact hk
  cases hq : s.1[k] with
  | true =>
    have he : s.1[k]? = some true := by rw [List.getElem?_eq_getElem hkl, hq]
    have b3 : w.cell? ⟨O, k, none⟩ = some (.bool true) := by rw [b1]; simp [he]
    have HF := Lib.hid (show RS w gb O ob nb base A n c (enterR s k) by rw [enterR_no he]; exact h)
    clear h b1 hq he hkl hnx ho g2 o2
    go_enter Tryz.func120, Tryz.ntmps120
    go_wp2
    go_end0
    exact ⟨rfl, HF.out, Below.refl _ _⟩
  | false =>
    have he : s.1[k]? = some false := by rw [List.getElem?_eq_getElem hkl, hq]
    have b3 : w.cell? ⟨O, k, none⟩ = some (.bool false) := by rw [b1]; simp [he]
    have H := Lib.hid h
    have hgs : w.grownBy (w.setCell ⟨O, k, none⟩ (.bool true)) (some O) := grown_setRow (World.grownBy.refl _ _) rfl _
    have Hho := Lib.hid ((ho.kept hgs (by
      cases e : (Value.slice A2 s.2.length d2).ownBlock with
      | none => exact .inl rfl
      | some b => exact .inr fun e2 => by
                    have := (ho.lt b e).1
                    simp at e2
                    omega)).alloc (.cells #[.int .i64 k] 3))
    have hnb : some nb ≠ (Value.slice A2 s.2.length d2).ownBlock := fun e => by have := (ho.lt _ e.symm).1; omega
    have hnO : some O ≠ (Value.slice A2 s.2.length d2).ownBlock := fun e => by have := (ho.lt _ e.symm).1; omega
    have hno : some ob ≠ (Value.slice A2 s.2.length d2).ownBlock := fun e => by have := (ho.lt _ e.symm).1; omega
    have hng : some gb ≠ (Value.slice A2 s.2.length d2).ownBlock := fun e => by have := (ho.lt _ e.symm).1; omega
    have Hn := Lib.hid hnx
    have hzO : (w.setCell ⟨O, k, none⟩ (.bool true)).heap.size = w.heap.size := by simp [World.setCell]
    have c3 : ((w.setCell ⟨O, k, none⟩ (.bool true)).alloc (.cells #[.int .i64 k] 3)).cell? ⟨w.heap.size, 0, none⟩ = some (.int .i64 k) := by
      have := (blk_facts (World.alloc_heap_new (w.setCell ⟨O, k, none⟩ (.bool true)) (.cells #[.int .i64 k] 3))).1 0
      rw [hzO] at this
      simpa using this
    clear h b1 hq hkl hnx ho g2 o2
    go_enter Tryz.func120, Tryz.ntmps120
    go_wp2_with (refine wpList_pushNat rfl _ _ rfl base _ s.2 rfl Hho.out w.heap.size k rfl c3 hl (by simp; omega) ?_; intro G cap w2 ho3 hg3 hor; have c4 : w2.cell? ⟨nb, 0, none⟩ = some (.slice A2 s.2.length d2) := hg3.cell ((World.cell?_alloc_lt _ _ _ (by simp; omega)).trans ((World.cell?_of_block (Below.heap_setCell w ⟨O, k, none⟩ _ _ q6)).trans ((blk_facts Hn.out).1 0))) hnb; have f4 : w2.frozen? ⟨nb, 0, none⟩ = false := (World.frozen?_of_block (hg3.block _ (by simp; omega) hnb)).trans ((World.frozen?_of_block (Below.heap_alloc _ _ _ (by simp; omega))).trans ((World.frozen?_of_block (Below.heap_setCell w ⟨O, k, none⟩ _ _ q6)).trans ((blk_facts Hn.out).2 0))))
    go_end0
    have hgw : (w.setCell ⟨O, k, none⟩ (.bool true)).grownBy w2 (Value.slice A2 s.2.length d2).ownBlock := grown_trans (World.grownBy_alloc _ _ _) hg3
    have hG := H.out
    have hbl : ∀ (j : Nat) (x : Obj), j ≠ O → j ≠ nb → j < base → w.heap[j]? = some x → (w2.setCell ⟨nb, 0, none⟩ (.slice (some ⟨G, 0, none⟩) (s.2.length + 1) cap)).heap[j]? = some x := by
      intro j x h1 h2 h3 h4
      rw [Below.heap_setCell w2 _ _ _ h2, hgw.block j (by rw [hzO]; omega) (fun e => by have := (Hho.out.lt j e.symm).1; omega), Below.heap_setCell w _ _ _ h1]
      exact h4
    have hsz2 := hgw.size
    rw [hzO] at hsz2
    refine ⟨rfl, ?_, ?_⟩
    · rw [enterR_yes he]
      refine ⟨hbl _ _ (by omega) (by omega) (by omega) hG.g, hbl _ _ (by omega) (by omega) (by omega) hG.o, ?_, ⟨.slice (some ⟨G, 0, none⟩) (s.2.length + 1) cap, ?_, ?_⟩, by simpa using hG.len, hl1, hl2, hl3, hl4, by simp [World.setCell]; omega⟩
      · rw [Below.heap_setCell w2 _ _ _ (by simpa using q3), hgw.block O (by rw [hzO]; omega) hnO]
        rw [show ((s.1.set k true).map Value.bool).toArray = ((s.1.map Value.bool).toArray).setIfInBounds k (.bool true) by simp [List.map_set]]
        exact setB_blk hG.bs k _
      · have := hgw.block nb (by rw [hzO]; omega) hnb
        rw [Below.heap_setCell w _ _ _ (by simpa using q6)] at this
        exact setB_blk (this.trans Hn.out) 0 _
      · refine World.ownsRow.kept (w' := w2.setCell ⟨nb, 0, none⟩ (.slice (some ⟨G, 0, none⟩) (s.2.length + 1) cap)) (row := some nb) ho3 (grown_setRow (World.grownBy.refl _ _) rfl _) (.inr fun e => ?_)
        have := (ho3.lt nb e).1
        omega
    · refine Below.setCell ?_ (by simp; omega) _
      exact ((Below.refl gb w).setCell (by simp; omega) _).trans ⟨hgw.os, hgw.tape, hgw.output, hgw.size, fun j hj => hgw.block j (by rw [hzO]; omega) (fun e => by have := (Hho.out.lt j e.symm).1; omega)⟩
theorem enters_reach_1 : ∀ args w, (callFunc 120 args).run Tryz.prog w = .ok (.enter 120 args) w := enters_of Tryz.func120 (by kernel_rfl) rfl

theorem cf_le (l : List Bool) : cf l ≤ l.length := List.count_le_length
structure RI (g : Gph) (fr : List Nat) (w : World) (A : Option Addr) (c : Nat) (ex : Nat → Prop) (s : List Bool × List Nat) (W : World) : Prop where
  rs : RS W w.heap.size (w.heap.size + 1) (w.heap.size + 1 + 1) (w.heap.size + 1 + 1 + 1) (w.heap.size + 1 + 1 + 1 + 1) A g.length c s
  inv : RInv g fr s ex
  low : Below w.heap.size w W
  meas : 2 * cf s.1 + s.2.length ≤ 2 * g.length
theorem RI.enter {g : Gph} {fr : List Nat} {w W W' : World} {A : Option Addr} {c k : Nat} {ex : Nat → Prop} {s : List Bool × List Nat} (h : RI g fr w A c ex s W) (hk : k < g.length) (hp : ∃ f ∈ fr, Path g f k)
    (hrs : RS W' w.heap.size (w.heap.size + 1) (w.heap.size + 1 + 1) (w.heap.size + 1 + 1 + 1) (w.heap.size + 1 + 1 + 1 + 1) A g.length c (enterR s k)) (hb : Below w.heap.size W W') : RI g fr w A c ex (enterR s k) W' :=
  ⟨hrs, h.inv.enter hk hp, h.low.trans hb, Nat.le_trans (enterR_meas s k) h.meas⟩
theorem RS.pop {W : World} {gb O ob nb base n c d b i : Nat} {A : Option Addr} {out : List Bool} {nx : List Nat} (h : RS W gb O ob nb base A n c (out, nx ++ [i]))
    (ho : W.ownsRow base 3 1 (.slice (some ⟨b, 0, none⟩) (nx.length + 1) d) (nx.length + 1) ((nx ++ [i]).map encN)) : RS (W.setCell ⟨nb, 0, none⟩ (.slice (some ⟨b, 0, none⟩) nx.length d)) gb O ob nb base A n c (out, nx) := by
  have h1 := h.l1
  have h2 := h.l2
  have h3 := h.l3
  have h4 := h.l4
  obtain ⟨v, hv, _⟩ := h.nx
  have hbl : ∀ (j : Nat) (x : Obj), j ≠ nb → W.heap[j]? = some x → (W.setCell ⟨nb, 0, none⟩ (.slice (some ⟨b, 0, none⟩) nx.length d)).heap[j]? = some x := fun j x e hx => (Below.heap_setCell W _ _ _ e).trans hx
  refine ⟨hbl _ _ (by omega) h.g, hbl _ _ (by omega) h.o, hbl _ _ (by omega) h.bs, ⟨.slice (some ⟨b, 0, none⟩) nx.length d, setB_blk hv 0 _, ?_⟩, h.len, h1, h2, h3, h4, by have := h.l5; simpa [World.setCell] using this⟩
  have hp : W.ownsRow base 3 1 (.slice (some ⟨b, 0, none⟩) nx.length d) nx.length (nx.map encN) := owns_prefix (by rw [List.map_append] at ho; exact ho) (by simp)
  refine World.ownsRow.kept (w' := W.setCell ⟨nb, 0, none⟩ (.slice (some ⟨b, 0, none⟩) nx.length d)) (row := some nb) hp (grown_setRow (World.grownBy.refl _ _) rfl _) (.inr fun e => ?_)
  have := (hp.lt nb e).1
  omega

def ReachOut (g : Gph) (fr : List Nat) (w : World) (e : Ending) (w' : World) : Prop := ∃ (O : Nat) (out : List Bool), e = .returned (.slice (some ⟨O, 0, none⟩) g.length g.length) ∧ w.heap.size ≤ O ∧ w'.heap[O]? = some (.cells (out.map Value.bool).toArray 4 (0, 0)) ∧
      out.length = g.length ∧ (∀ k, out[k]? = some true ↔ ∃ f ∈ fr, Path g f k) ∧ Below w.heap.size w w'

set_option maxRecDepth 100000 in
set_option maxHeartbeats 2000000 in
theorem reach_any (v vf : Value) (g : Gph) (fr : List Nat) (B : Nat) (w : World) (hB : B ≤ w.heap.size) (h : GraphAt w B v g) (hok : GOk g) (hf : NatsAt w B vf fr) (hfr : ∀ f ∈ fr, f < g.length) :
    Calls Tryz.prog 64 #[v, vf] w fun e w' => ReachOut g fr w e w' := by
  have hlen := hok.len
  have hmk := run_mkBools g.length hlen
  obtain ⟨A, c, rfl, hm, hlc, hcm, hA⟩ := h.open_
  obtain ⟨Af, cfp, rfl, hmf, hlcf, hcmf, hAf⟩ := hf.open_
  clear h hf
  go_enter Tryz.func64, Tryz.ntmps64
  go_wp2
  obtain ⟨wo, hwo⟩ : ∃ wo : World, wo = (((w.alloc (.cells #[.slice A g.length c] 49)).alloc (.cells (Array.replicate g.length (.bool false)) 4)).alloc (.cells #[.slice (some ⟨w.heap.size + 1, 0, none⟩) g.length g.length] 55)).alloc (.cells #[.slice none 0 0] 56) := ⟨_, rfl⟩
  have h0 : RI g fr w A c (fun _ => False) (List.replicate g.length false, []) wo := by
    have a0 := World.alloc_heap_new w (.cells #[.slice A g.length c] 49)
    have a1 := World.alloc_heap_new (w.alloc (.cells #[.slice A g.length c] 49)) (.cells (Array.replicate g.length (.bool false)) 4)
    have a2 := World.alloc_heap_new ((w.alloc (.cells #[.slice A g.length c] 49)).alloc (.cells (Array.replicate g.length (.bool false)) 4)) (.cells #[.slice (some ⟨w.heap.size + 1, 0, none⟩) g.length g.length] 55)
    have a3 := World.alloc_heap_new (((w.alloc (.cells #[.slice A g.length c] 49)).alloc (.cells (Array.replicate g.length (.bool false)) 4)).alloc (.cells #[.slice (some ⟨w.heap.size + 1, 0, none⟩) g.length g.length] 55)) (.cells #[.slice none 0 0] 56)
    simp only [World.size_alloc] at a1 a2 a3
    refine ⟨⟨?_, ?_, ?_, ⟨.slice none 0 0, ?_, World.ownsRow_nil _ _ _ _⟩, by simp, by omega, by omega, by omega, by omega, by rw [hwo]; simp⟩, RInv.start g fr _ rfl, ?_, ?_⟩
    · rw [hwo]; exact seen_alloc (seen_alloc (seen_alloc a0 _) _) _
    · rw [hwo]; exact seen_alloc a2 _
    · rw [hwo]; rw [List.map_replicate, List.toArray_replicate]; exact seen_alloc (seen_alloc a1 _) _
    · rw [hwo]; exact a3
    · rw [hwo]; exact ((((Below.refl w.heap.size w).alloc (Nat.le_refl _) _).alloc (by simp) _).alloc (by simp; omega) _).alloc (by simp; omega) _
    · have := cf_le (List.replicate g.length false)
      simp at this ⊢
      omega
  rw [← hwo]
  clear hwo hmk
  go_loopw [19] (fun s8 wr => ∃ k : Nat, k ≤ fr.length ∧ s8 = .int .i64 k ∧ Hid (∃ s, RI g fr w A c (fun _ => False) s wr ∧ ∀ f ∈ fr.take k, s.1[f]? = some true)) (fun s8 _ => fr.length - (intOf s8).toNat)
  case atStart => exact ⟨0, Nat.zero_le _, rfl, _, h0, fun f hf => by simp at hf⟩
  case round =>
    obtain ⟨k, hkl, rfl, hI⟩ := hrel
    clear h0
    by_cases hl : k < fr.length
    · obtain ⟨s, hR, hT⟩ := hI.out
      obtain ⟨f, b, off, hx, rfl, hbB, hcf⟩ := hAf.at1 hl
      have hfm : f ∈ fr := List.mem_of_getElem? hx
      have hfl := hfr f hfm
      have hc1 := cur hR.low (by omega) hcf.1
      have hcall := reach_1 f _ _ _ _ _ A g.length c s wr hfl hlen (by have := hR.meas; omega) hR.rs
      have HR := Lib.hid hR
      have HT := Lib.hid hT
      have Hx := Lib.hid hx
      clear hI hR hT hx hcf hAf
      go_wp2_with fail
      refine hcall.mono ?_
      rintro e w' ⟨rfl, hrs, hb1⟩
      go_wp2_with fail
      go_roundw
      case rel =>
        refine ⟨k + 1, by omega, by go_num, enterR s f, HR.out.enter hfl ⟨f, hfm, .refl⟩ hrs hb1, fun f' hf' => ?_⟩
        rw [List.take_add_one, Hx.out] at hf'
        simp only [Option.toList_some, List.mem_append, List.mem_singleton] at hf'
        rcases hf' with hf' | rfl
        · exact enterR_true (HT.out f' hf')
        · exact enterR_self (by rw [HR.out.inv.len]; exact hfl)
      case measure => simp [intOf]; omega
    · have HJ := Lib.hid (show ∃ s, RI g fr w A c (fun _ => False) s wr ∧ ∀ f ∈ fr, s.1[f]? = some true by
        have := hI.out
        rwa [List.take_of_length_le (by omega)] at this)
      obtain ⟨wo2, hwo2⟩ : ∃ wo2 : World, wo2 = wr := ⟨_, rfl⟩
      rw [← hwo2] at HJ ⊢
      clear hI hwo2
      go_wp2
      go_loopg [10] (2 * g.length) (fun m s10 wr => Hid (∃ s, RI g fr w A c (fun _ => False) s wr ∧ (∀ f ∈ fr, s.1[f]? = some true) ∧ 2 * cf s.1 + s.2.length ≤ m))
      case atStart =>
        obtain ⟨s, h1, h2⟩ := HJ.out
        exact ⟨s, h1, h2, h1.meas⟩
      case round =>
        obtain ⟨⟨out, next⟩, hR, hT, hM⟩ := hrel.out
        clear hrel HJ
        obtain ⟨v, hnx, ho⟩ := hR.rs.nx
        have hl5 := hR.rs.l5
        rcases List.eq_nil_or_concat next with rfl | ⟨nx, i, e⟩
        · obtain ⟨A2, d2, rfl, _, _, _, _⟩ := owns_slice ho
          obtain ⟨n1, n2⟩ := blk_facts hnx
          obtain ⟨o1, o2⟩ := blk_facts hR.rs.o
          have HR := Lib.hid hR
          have HT := Lib.hid hT
          clear hR hT hM hnx ho
          go_wp2
          go_ret
          exact ⟨w.heap.size + 1, out, rfl, by omega, HR.out.rs.bs, HR.out.inv.len, HR.out.inv.all HT.out, HR.out.low⟩
        · rw [List.concat_eq_append] at e
          subst e
          have ho' := ho
          simp only [List.length_append, List.length_cons, List.length_nil, Nat.zero_add] at ho'
          obtain ⟨A2, d2, rfl, hd1, hd2, _, _⟩ := owns_slice ho'
          have hd3 : nx.length ≤ d2 := by omega
          obtain ⟨b, rfl, hb1, hb2, hci⟩ := owns_at (k := nx.length) (x := i) ho' (by simp)
          obtain ⟨n1, n2⟩ := blk_facts hnx
          obtain ⟨g1, g2⟩ := blk_facts hR.rs.g
          have hpop := RInv.pop hR.inv
          have hig : i < g.length := by
            have := (List.getElem?_eq_some_iff.1 hpop.2).1
            rwa [hpop.1.len] at this
          obtain ⟨r, b3, off, hx, rfl, hbB, v1, e0, hr⟩ := hA.at1 hig
          have hrow := row_of hx
          have hrm : r ∈ g := List.mem_of_getElem? hx
          replace e0 := cur hR.low (by omega) e0
          have hrw := hr.keep natR.keeps (w' := wr) fun p hp => hR.low.cell (by omega)
          obtain ⟨A1, c1, rfl, m1, _, _, hA1⟩ := hr.open_
          have hR2 : RI g fr w (some ⟨b3, off, none⟩) c (fun x => x = i) (out, nx) (wr.setCell ⟨w.heap.size + 1 + 1 + 1, 0, none⟩ (.slice (some ⟨b, 0, none⟩) nx.length d2)) :=
            ⟨hR.rs.pop ho', hpop.1, hR.low.setCell (by simp; omega) _, by have := hR.meas; simp at this ⊢; omega⟩
          have HR := Lib.hid hR2
          have HT := Lib.hid hT
          have HM := Lib.hid hM
          have hlen2 : nx.length ≤ 131072 := by have := hR.meas; simp at this; omega
          have HP := Lib.hid (show ∃ f ∈ fr, Path g f i from hR.inv.path i hpop.2)
          have Hrow := Lib.hid hrow
          have Hx := Lib.hid hx
          have HA1 := Lib.hid hA1
          have q1 : w.heap.size + 1 + 1 + 1 ≠ b := by omega
          have q2 : b3 ≠ w.heap.size + 1 + 1 + 1 := by omega
          have q3 : w.heap.size ≠ b3 := by omega
          clear hR hR2 hT hM hnx ho ho' hr hrw hx hrow hpop g2 hA1
          go_upto_region 12 with (fail)
          iterate 23 go_step
          obtain ⟨wo3, hwo3⟩ : ∃ wo3 : World, wo3 = wr.setCell ⟨w.heap.size + 1 + 1 + 1, 0, none⟩ (.slice (some ⟨b, 0, none⟩) nx.length d2) := ⟨_, rfl⟩
          rw [← hwo3] at HR ⊢
          clear hwo3 n1 n2 g1 e0 hci q1 q2 q3 hd1 hd2 hd3
          go_loopw [46] (fun s8 wi => ∃ j : Nat, j ≤ r.length ∧ s8 = .int .i64 j ∧ Hid (∃ s, RI g fr w (some ⟨b3, off, none⟩) c (fun x => x = i) s wi ∧ (∀ f ∈ fr, s.1[f]? = some true) ∧ (∀ f ∈ r.take j, s.1[f]? = some true) ∧ 2 * cf s.1 + s.2.length + 1 ≤ gk)) (fun s8 _ => r.length - (intOf s8).toNat)
          case atStart => exact ⟨0, Nat.zero_le _, rfl, _, HR.out, HT.out, fun f hf => by simp at hf, by have := HM.out; simp at this ⊢; omega⟩
          case round =>
            obtain ⟨j, hjl, rfl, hJ⟩ := hrel
            clear HR HT HM
            by_cases hl2 : j < r.length
            · obtain ⟨s, hR, hT, hT2, hM⟩ := hJ.out
              obtain ⟨f, b4, off4, hx, rfl, hbB4, hcf⟩ := HA1.out.at1 hl2
              have hfr2 : f ∈ r := List.mem_of_getElem? hx
              have hfl := hok.lt r hrm f hfr2
              have hc1 := cur hR.low (by omega) hcf.1
              have hcall := reach_1 f _ _ _ _ _ _ g.length c s wr hfl hlen (by have := hR.meas; omega) hR.rs
              have HR := Lib.hid hR
              have HT := Lib.hid hT
              have HT2 := Lib.hid hT2
              have HM := Lib.hid hM
              have Hx2 := Lib.hid hx
              clear hJ hR hT hT2 hM hx hcf
              go_wp2_with fail
              refine hcall.mono ?_
              rintro e w' ⟨rfl, hrs, hb1⟩
              go_wp2_with fail
              go_roundw
              case rel =>
                refine ⟨j + 1, by omega, by go_num, enterR s f, HR.out.enter hfl ?_ hrs hb1, fun f' hf' => enterR_true (HT.out f' hf'), fun f' hf' => ?_, ?_⟩
                · obtain ⟨f0, h1, h2⟩ := HP.out
                  exact ⟨f0, h1, h2.step (by rw [Hrow.out]; exact hfr2)⟩
                · rw [List.take_add_one, Hx2.out] at hf'
                  simp only [Option.toList_some, List.mem_append, List.mem_singleton] at hf'
                  rcases hf' with hf' | rfl
                  · exact enterR_true (HT2.out f' hf')
                  · exact enterR_self (by rw [HR.out.inv.len]; exact hfl)
                · have := enterR_meas s f
                  have := HM.out
                  omega
              case measure => simp [intOf]; omega
            · have HJ := Lib.hid (show ∃ s, RI g fr w (some ⟨b3, off, none⟩) c (fun _ => False) s wr ∧ (∀ f ∈ fr, s.1[f]? = some true) ∧ 2 * cf s.1 + s.2.length + 1 ≤ gk by
                obtain ⟨s, hR, hT, hT2, hM⟩ := hJ.out
                rw [List.take_of_length_le (by omega)] at hT2
                exact ⟨s, ⟨hR.rs, hR.inv.over (by rw [Hrow.out]; exact hT2), hR.low, hR.meas⟩, hT, hM⟩)
              clear hJ
              go_wp2
              go_roundg (gk - 1)
              case measure => obtain ⟨s, _, _, h⟩ := HJ.out; omega
              case rel =>
                obtain ⟨s, h1, h2, h3⟩ := HJ.out
                exact ⟨s, h1, h2, by omega⟩
end Go.Proofs.YtpemkbjbbcnddaaGreat

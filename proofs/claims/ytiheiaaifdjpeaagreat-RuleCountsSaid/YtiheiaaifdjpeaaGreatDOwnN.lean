/- Rows of the call's own whose elements have several cells: append of one; reading as a list; code rows that are read whatever else turns. Condition: room. -/
import Derived.Test.YtiheiaaifdjpeaaGreatDSli
set_option linter.unusedVariables false
set_option linter.unusedSimpArgs false
namespace Go.Proofs.YtiheiaaifdjpeaaGreat
open Go.RowKit
theorem Zjl {P : Program} {w : World} {ops : Array Oper} {rest : List Oper} {o : Oper} {a : Act} {Q : Exit → Act → World → Prop} (hgd : o.guard = none) (s x : Operand) (t : TypeId)
  (ho : o.op = .call { callee := .builtin .append, args := #[s, x], argTypes := #[t, t] })
  (base : Nat) (e : TypeId) (z : Value) (size bytes : Nat) (ht : P.underlying t = some (.slice e)) (hinfo : (P.info? e).map (fun i => (i.zero, i.size, i.bytes)) = some (some z, size, bytes)) (hzs : z.cells.size = size) (hsz : 0 < size)
  (v : Value) (xs : List Value) (n : Nat) (hs : a.eval s = v) (hown : w.ownsRow base e size v n xs)
  (b : Nat) (news : List Value) (hl : news.length = size) (hu : ∀ u ∈ news, u.oneCell' = true) (hx : a.eval x = .slice (some ⟨b, 0, none⟩) 1 1) (cs : Array Value) (tb : TypeId) (hb : w.heap[b]? = some (.cells cs tb (0, 0))) (hcs : cs.toList = news)
  (h63 : n + 1 ≤ maxLen) (hbytes : (n + 1) * bytes ≤ 140737488355328) (hbase : base ≤ w.heap.size)
  (h : ∀ g c w', w'.ownsRow base e size (.slice (some ⟨g, 0, none⟩) (n + 1) c) (n + 1) (xs ++ news) → w.grownBy w' v.ownBlock → (v.ownBlock = some g ∨ g = w.heap.size) → wpList P ops Q rest (a.put o.dst (.slice (some ⟨g, 0, none⟩) (n + 1) c)) w') :
  wpList P ops Q (o :: rest) a w := by
 obtain ⟨i, hi, hz0, hz1, hz2⟩ := info_parts hinfo;have hnews : ∀ j u', news[j]? = some u' → w.cell? ((⟨b, 0, none⟩ : Addr).add j) = some u' := by
  intro j u' hj;have : w.cell? ⟨b, j, none⟩ = some u' := by rw [(Za hb).1, ← Array.getElem?_toList, hcs]; exact hj
  unfold Addr.add
  split
  ·rename_i hj0; subst hj0; exact this
  ·simpa using this
 obtain ⟨v', w', hrun, h2, h3, h4, h5⟩ := run_append_own_at (P := P) w base t o.type e i z size bytes ht hi hz0 hz1 hz2 hzs hsz v n xs hown ⟨b, 0, none⟩ 1 1 news (by simpa using hl) hnews hu h63 hbytes hbase;refine wpList_plain hgd fun K hK => ?_
 have key : ∃ g c, v' = .slice (some ⟨g, 0, none⟩) (n + 1) c := by
  rcases h2.2 with ⟨_, h0⟩ | ⟨g, cap, cur, e1, _⟩
  ·omega
  ·exact ⟨g, cap, e1⟩
 obtain ⟨g, c, rfl⟩ := key
 have h6 := hK _ _ (h g c w' h2 h3 (by
                                    rcases h5 with h5 | h5
                                    ·exact .inl h5.symm
                                    ·right; simpa [Value.ownBlock] using h5))
 unfold Oper.wp execOp;simp only [ho, resolve, invoke, builtin, Sem.run_bind, Sem.run_pure, Result.andThen_ok, List.map_toArray, List.map_cons, List.map_nil, hs, hx, hrun];exact h6
theorem Zhv {P : Program} {w : World} (t ty : TypeId) (base : Nat) (e : TypeId) (z : Value) (size bytes : Nat) (ht : P.underlying t = some (.slice e)) (hinfo : (P.info? e).map (fun i => (i.zero, i.size, i.bytes)) = some (some z, size, bytes)) (hzs : z.cells.size = size) (hsz : 0 < size)
  (v : Value) (xs : List Value) (n : Nat) (hown : w.ownsRow base e size v n xs)
  (b : Nat) (news : List Value) (hl : news.length = size) (hu : ∀ u ∈ news, u.oneCell' = true) (cs : Array Value) (tb : TypeId) (hb : w.heap[b]? = some (.cells cs tb (0, 0))) (hcs : cs.toList = news)
  (h63 : n + 1 ≤ maxLen) (hbytes : (n + 1) * bytes ≤ 140737488355328) (hbase : base ≤ w.heap.size) :
  ∃ g c w', (Builtin.append_ #[t, t] ty #[v, .slice (some ⟨b, 0, none⟩) 1 1]).run P w = .ok (.slice (some ⟨g, 0, none⟩) (n + 1) c) w' ∧ w'.ownsRow base e size (.slice (some ⟨g, 0, none⟩) (n + 1) c) (n + 1) (xs ++ news) ∧ w.grownBy w' v.ownBlock ∧ (v.ownBlock = some g ∨ g = w.heap.size) := by
 obtain ⟨i, hi, hz0, hz1, hz2⟩ := info_parts hinfo;have hnews : ∀ j u', news[j]? = some u' → w.cell? ((⟨b, 0, none⟩ : Addr).add j) = some u' := by
  intro j u' hj;have : w.cell? ⟨b, j, none⟩ = some u' := by rw [(Za hb).1, ← Array.getElem?_toList, hcs]; exact hj
  unfold Addr.add
  split
  ·rename_i hj0; subst hj0; exact this
  ·simpa using this
 obtain ⟨v', w', hrun, h2, h3, h4, h5⟩ := run_append_own_at (P := P) w base t ty e i z size bytes ht hi hz0 hz1 hz2 hzs hsz v n xs hown ⟨b, 0, none⟩ 1 1 news (by simpa using hl) hnews hu h63 hbytes hbase;have key : ∃ g c, v' = .slice (some ⟨g, 0, none⟩) (n + 1) c := by
  rcases h2.2 with ⟨_, h0⟩ | ⟨g, cap, cur, e1, _⟩
  ·omega
  ·exact ⟨g, cap, e1⟩
 obtain ⟨g, c, rfl⟩ := key
 exact ⟨g, c, w', hrun, h2, h3, by
  rcases h5 with h5 | h5
  ·exact .inl h5.symm
  ·right; simpa [Value.ownBlock] using h5⟩
theorem Vl {P : Program} {w : World} {ops : Array Oper} {o : Oper} {a : Act} {K : Act → World → Prop} {Q : Exit → Act → World → Prop} {E : Prop} (hgd : o.guard = none) (s x : Operand) (t : TypeId)
  (ho : o.op = .call { callee := .builtin .append, args := #[s, x], argTypes := #[t, t] })
  (base : Nat) (e : TypeId) (z : Value) (size bytes : Nat) (ht : P.underlying t = some (.slice e)) (hinfo : (P.info? e).map (fun i => (i.zero, i.size, i.bytes)) = some (some z, size, bytes)) (hzs : z.cells.size = size) (hsz : 0 < size)
  (v : Value) (xs : List Value) (n : Nat) (hs : a.eval s = v) (hown : w.ownsRow base e size v n xs)
  (b : Nat) (news : List Value) (hl : news.length = size) (hu : ∀ u ∈ news, u.oneCell' = true) (hx : a.eval x = .slice (some ⟨b, 0, none⟩) 1 1) (cs : Array Value) (tb : TypeId) (hb : w.heap[b]? = some (.cells cs tb (0, 0))) (hcs : cs.toList = news)
  (h63 : n + 1 ≤ maxLen) (hbytes : (n + 1) * bytes ≤ 140737488355328) (hbase : base ≤ w.heap.size)
  (h : ∀ g c w', w'.ownsRow base e size (.slice (some ⟨g, 0, none⟩) (n + 1) c) (n + 1) (xs ++ news) → w.grownBy w' v.ownBlock → (v.ownBlock = some g ∨ g = w.heap.size) → K (a.put o.dst (.slice (some ⟨g, 0, none⟩) (n + 1) c)) w') :
  if Region.wanted o (yielded ops a.tmps) = true then Oper.wp P o a w K Q else E := by
 have hw : Region.wanted o (yielded ops a.tmps) = true := by simp [Region.wanted, hgd]
 rw [if_pos hw];obtain ⟨g, c, w', hrun, h1, h2, h3⟩ := Zhv (P := P) t o.type base e z size bytes ht hinfo hzs hsz v xs n hown b news hl hu cs tb hb hcs h63 hbytes hbase;have h6 := h g c w' h1 h2 h3;unfold Oper.wp execOp;simp only [ho, resolve, invoke, builtin, Sem.run_bind, Sem.run_pure, Result.andThen_ok, List.map_toArray, List.map_cons, List.map_nil, hs, hx, hrun];exact h6
theorem Y2 {w : World} {base : Nat} {e : TypeId} {size n c g : Nat} {xs : List Value} (h : w.ownsRow base e size (.slice (some ⟨g, 0, none⟩) n c) n xs) : base ≤ g ∧ g < w.heap.size ∧ n ≤ c ∧ c ≤ maxLen ∧ ∀ j u, xs[j]? = some u → w.cell? ⟨g, j, none⟩ = some u := by
 obtain ⟨hl, h2⟩ := h
 rcases h2 with ⟨e1, _⟩ | ⟨g', cap, cur, e1, hb, hh, hc, hm, hcs, ht⟩
 ·cases e1
 ·injection e1 with e1 e2 e3
  injection e1 with e1
  injection e1 with e1
  subst e1; subst e3;refine ⟨hb, Ze hh, hc, hm, fun j u hu => ?_⟩;rw [(Za hh).1];have hj : j < xs.length := (List.getElem?_eq_some_iff.1 hu).1;rw [← ht, List.getElem?_take_of_lt (by omega)] at hu;simpa using hu
theorem Zr {w : World} {base : Nat} {e : TypeId} {size : Nat} {v : Value} {n : Nat} {xs : List Value} (h : w.ownsRow base e size v n xs) : ∃ A c, v = .slice A n c ∧ n ≤ c ∧ c ≤ maxLen ∧ (A = none → n = 0 ∧ c = 0) ∧ (∀ a, A = some a → a = ⟨a.block, 0, none⟩ ∧ base ≤ a.block ∧ a.block < w.heap.size) := by
 rcases h.2 with ⟨rfl, h0⟩ | ⟨g, cap, cur, rfl, hb, hh, h1, h2, _⟩
 ·exact ⟨none, 0, by rw [h0], by omega, by unfold maxLen; omega, (fun _ => ⟨h0, rfl⟩), (fun a e => by cases e)⟩
 ·exact ⟨_, _, rfl, h1, h2, (fun e => by cases e), (fun a e => by cases e; exact ⟨rfl, hb, Ze hh⟩)⟩
theorem V8 {α : Type} {f : α → List Value} {sz : Nat} : ∀ {l : List α} {k j : Nat} {x : α}, (∀ x ∈ l, (f x).length = sz) → l[k]? = some x → j < sz → (l.flatMap f)[k * sz + j]? = (f x)[j]?
 | [], k, j, x, _, h, _ => by simp at h
 | y :: l, 0, j, x, hl, h, hj => by
  simp only [List.getElem?_cons_zero, Option.some.injEq] at h;subst h;rw [List.flatMap_cons, List.getElem?_append_left (by rw [hl _ (by simp)]; omega)];simp
 | y :: l, k + 1, j, x, hl, h, hj => by
  have := V8 (f := f) (l := l) (k := k) (fun z hz => hl z (List.mem_cons_of_mem _ hz)) (by simpa using h) hj;have hy := hl y (by simp);rw [List.flatMap_cons, List.getElem?_append_right (by rw [hy, Nat.succ_mul]; omega), hy, ← this]
  congr 1
  rw [Nat.succ_mul];omega
theorem SlAt.of_ownN {α : Type} {R : Rdr α} {w W : World} {base B : Nat} {e : TypeId} {v : Value} {n sz : Nat} {xs : List Value} {l : List α} (h : w.ownsRow base e sz v n xs) (hn : n = l.length) (hB : ∀ g, v.ownBlock = some g → g < B)
  (hR : ∀ g k x, v.ownBlock = some g → l[k]? = some x → R W B g (k * sz) x) : SlAt R sz W B v l := by
 subst hn;obtain ⟨A, c, rfl, hc, hm, h0, h1⟩ := Zr h
 cases A with
 | none =>
  have : l = [] := List.eq_nil_of_length_eq_zero (h0 rfl).1;subst this;rw [(h0 rfl).2];exact SlAt.nil_ R sz W B
 | some a =>
  obtain ⟨e1, h2, h3⟩ := h1 a rfl;rw [e1] at hB hR ⊢;exact ⟨_, c, rfl, hc, hm, fun k x hx => ⟨_, 0, rfl, hB _ rfl, by rw [Nat.zero_add]; exact hR _ k x rfl hx⟩⟩
def CodeX (w : World) (G : Option Nat) (vc : Value) (code : List GIns) : Prop :=
 ∀ (W : World) (B : Nat), w.heap.size ≤ B → (∀ b o v, b < w.heap.size → some b ≠ G → w.cell? ⟨b, o, none⟩ = some v → W.cell? ⟨b, o, none⟩ = some v) → CodeAt W B vc code
theorem CodeX.keep {w w' : World} {G G' : Option Nat} {vc : Value} {code : List GIns} (h : CodeX w G vc code) (hg : w.grownBy w' G) (hG : G' = G ∨ ∀ g, G' = some g → w.heap.size ≤ g) : CodeX w' G' vc code := by
 intro W B hB hW;refine h W B (Nat.le_trans hg.size hB) fun b o v hb hne hc => hW b o v (Nat.lt_of_lt_of_le hb hg.size) ?_ ?_
 ·rcases hG with rfl | hG
  ·exact hne
  ·intro e;have := hG b e.symm;omega
 ·exact (World.cell?_of_block (hg.block b hb hne)).trans hc
theorem CodeX.at_ {w : World} {G : Option Nat} {vc : Value} {code : List GIns} (h : CodeX w G vc code) : CodeAt w w.heap.size vc code := h w _ (Nat.le_refl _) fun _ _ _ _ _ h => h
theorem CodeX.set {w : World} {G : Option Nat} {vc : Value} {code : List GIns} (h : CodeX w G vc code) {w' : World} (hs : w'.heap.size = w.heap.size) {lo : Nat} (hl : ∀ b, some b ≠ G → b ≠ lo → w'.heap[b]? = w.heap[b]?) (hlo : ∀ (W : World) (B : Nat), w.heap.size ≤ B → (∀ b o v, b < w.heap.size → some b ≠ G → b ≠ lo → w.cell? ⟨b, o, none⟩ = some v → W.cell? ⟨b, o, none⟩ = some v) → CodeAt W B vc code) : CodeX w' G vc code := by
 intro W B hB hW;rw [hs] at hB;refine hlo W B hB fun b o v hb hne hne2 hc => hW b o v (by omega) hne ((World.cell?_of_block (hl b hne hne2)).trans hc)
end Go.Proofs.YtiheiaaifdjpeaaGreat

/- A map of package sites that is made: how it lies, whatever lies below lo may turn. Condition: nothing is wrong with the names. -/
import Derived.Test.YtiheiaaifdjpeaaGreatDStb
import Derived.Test.YtiheiaaifdjpeaaGreatDCpy
set_option linter.unusedVariables false
set_option linter.unusedSimpArgs false
namespace Go.Proofs.YtiheiaaifdjpeaaGreat
open Go.RowKit Go.Shelf
structure MapL (lo : Nat) (w : World) (m : Nat) (p : GProg) : Prop where
 ok : NOk p
 lay : ∃ (base : Nat) (a : MAd) (r : Rw) (A : Option Addr) (c : Nat), a.m = m ∧ MapI w base a.m a.vt a.vM a.ft a.fM a.mb (.slice A p.length c) r.vV r.vF r.vS r.vO r.vP (Zg p p.length) (Zv p p.length) ∧
  base ≤ w.heap.size ∧ (∀ n, MQ a r n → lo ≤ n) ∧ ∀ W B', SupI lo w W B' → ProgAt W B' (.slice A p.length c) p
theorem MapL.chg {lo : Nat} {w w' : World} {m : Nat} {p : GProg} {Q : Nat → Prop} (h : MapL lo w m p) (hg : Chg Q w w') (hq : ∀ n, lo ≤ n → n < w.heap.size → ¬ Q n) : MapL lo w' m p where
 ok := h.ok
 lay := by
  obtain ⟨base, a, r, A, c, e, hm, hb, hl, hp⟩ := h.lay;exact ⟨base, a, r, A, c, e, hm.chg hg (fun n hn => hq n (hl n hn) (hm.lt hn)), Nat.le_trans hb hg.size, hl, fun W B' hs => hp W B' (hs.chg hg hq)⟩
theorem MapL.grown {lo : Nat} {w w' : World} {m : Nat} {p : GProg} (h : MapL lo w m p) (hg : w.grownBy w' none) : MapL lo w' m p :=
 h.chg (Chg.grown (Q := fun _ => False) hg (fun r e => by cases e)) (fun _ _ _ e => e)
structure MapO (w : World) (m : Nat) (p : GProg) (A : Option Addr) (c vt ft mb : Nat) (AS : Option Addr) (cS : Nat) (AO : Option Addr) (cO : Nat) (AP : Option Addr) (cP : Nat) : Prop where
 ok : NOk p
 blk : w.heap[m]? = some (.cells #[.slice A p.length c, .pointer (some ⟨vt, 0, none⟩), .pointer (some ⟨ft, 0, none⟩), .slice AS (Zg p p.length).sites.length cS, .map (some mb), .slice AO (Zg p p.length).of.length cO, .slice AP (Zg p p.length).pl.length cP] 99 (0, 0))
 prog : ProgAt w w.heap.size (.slice A p.length c) p
 vars : ∃ base vM vV, TabL w base vt vM vV (Zg p p.length).vars ∧ base ≤ w.heap.size
 funs : ∃ base fM vF, TabS w base ft fM vF (Zv p p.length) ∧ base ≤ w.heap.size
 sites : ∃ base, w.ownsRow base 106 5 (.slice AS (Zg p p.length).sites.length cS) (Zg p p.length).sites.length ((Zg p p.length).sites.flatMap Uq)
 by_ : w.heap[mb]? = some (Yd X5 Z3 (Zg p p.length).at_)
 of : ∃ base, w.ownsRow base 3 1 (.slice AO (Zg p p.length).of.length cO) (Zg p p.length).of.length ((Zg p p.length).of.map Z3)
 pts : ∃ base, w.ownsRow base 42 3 (.slice AP (Zg p p.length).pl.length cP) (Zg p p.length).pl.length ((Zg p p.length).pl.flatMap Up)
theorem MapL.open_ {lo : Nat} {w : World} {m : Nat} {p : GProg} (h : MapL lo w m p) : ∃ A c vt ft mb AS cS AO cO AP cP, MapO w m p A c vt ft mb AS cS AO cO AP cP := by
 obtain ⟨base, a, r, A, c, rfl, hm, hb, hl, hp⟩ := h.lay;obtain ⟨m0, vt, vM, ft, fM, mb⟩ := a;obtain ⟨vV, vF, vS, vO, vP⟩ := r;simp only at hm;obtain ⟨AS, cS, rfl, -, -, -, -⟩ := Zr hm.sites;obtain ⟨AO, cO, rfl, -, -, -, -⟩ := Zr hm.of;obtain ⟨AP, cP, rfl, -, -, -, -⟩ := Zr hm.pts;exact ⟨A, c, vt, ft, mb, AS, cS, AO, cO, AP, cP, h.ok, hm.blk, hp w _ (SupI.refl _ _), ⟨base, vM, vV, hm.vars, hb⟩, ⟨base, fM, vF, hm.funs, hb⟩, ⟨base, hm.sites⟩, hm.by_, ⟨base, hm.of⟩, ⟨base, hm.pts⟩⟩
theorem MapO.lens {w : World} {m : Nat} {p : GProg} {A : Option Addr} {c vt ft mb : Nat} {AS : Option Addr} {cS : Nat} {AO : Option Addr} {cO : Nat} {AP : Option Addr} {cP : Nat} (h : MapO w m p A c vt ft mb AS cS AO cO AP cP) :
  (Zg p p.length).vars.length ≤ 5000 ∧ (Zg p p.length).pl.length ≤ 4096 ∧ (Zg p p.length).sites.length ≤ 4096 ∧ (Zg p p.length).of.length ≤ 262144 ∧ p.length ≤ 64 := by
 obtain ⟨h1, h2, h3, h4⟩ := h.ok.lens (Nat.le_refl p.length) (SLe.refl _);exact ⟨h1, h2, h3, h4, h.ok.funcs.2⟩
theorem MapO.siteC {w : World} {m : Nat} {p : GProg} {A : Option Addr} {c vt ft mb : Nat} {AS : Option Addr} {cS : Nat} {AO : Option Addr} {cO : Nat} {AP : Option Addr} {cP : Nat} (h : MapO w m p A c vt ft mb AS cS AO cO AP cP) {j : Nat} {x : GPt × Nat × Nat} (hx : (Zg p p.length).sites[j]? = some x) :
  ∃ g, AS = some ⟨g, 0, none⟩ ∧ g < w.heap.size ∧ (Zg p p.length).sites.length ≤ cS ∧ cS ≤ maxLen ∧ w.cell? ⟨g, j * 5, none⟩ = some (.int .i64 x.1.1) ∧ w.cell? ⟨g, j * 5 + 1, none⟩ = some (.int .i64 x.1.2.1) ∧ w.cell? ⟨g, j * 5 + 2, none⟩ = some (.int .i64 x.1.2.2) ∧ w.cell? ⟨g, j * 5 + 3, none⟩ = some (.int .i64 x.2.1) ∧ w.cell? ⟨g, j * 5 + 4, none⟩ = some (.int .i64 x.2.2) := by
 obtain ⟨base, ho⟩ := h.sites;have hj := (List.getElem?_eq_some_iff.1 hx).1;obtain ⟨A', c', e, _, _, h0, h1⟩ := Zr ho;injection e with e _ e2
 subst e;subst e2
 cases AS with
 | none => have := (h0 rfl).1; omega
 | some a =>
  obtain ⟨ha, -, -⟩ := h1 a rfl;rw [ha] at ho ⊢;obtain ⟨_, h3, h4, h5, h6⟩ := Y2 ho;have key : ∀ t (u : Value), t < 5 → (Uq x)[t]? = some u → w.cell? ⟨a.block, j * 5 + t, none⟩ = some u := fun t u ht hu => h6 _ _ ((V8 (f := Uq) (sz := 5) (fun z _ => rfl) hx ht).trans hu)
  exact ⟨a.block, rfl, h3, h4, h5, key 0 _ (by omega) rfl, key 1 _ (by omega) rfl, key 2 _ (by omega) rfl, key 3 _ (by omega) rfl, key 4 _ (by omega) rfl⟩
theorem MapO.ofC {w : World} {m : Nat} {p : GProg} {A : Option Addr} {c vt ft mb : Nat} {AS : Option Addr} {cS : Nat} {AO : Option Addr} {cO : Nat} {AP : Option Addr} {cP : Nat} (h : MapO w m p A c vt ft mb AS cS AO cO AP cP) {o j : Nat} (hx : (Zg p p.length).of[o]? = some j) :
  ∃ g, AO = some ⟨g, 0, none⟩ ∧ g < w.heap.size ∧ (Zg p p.length).of.length ≤ cO ∧ cO ≤ maxLen ∧ w.cell? ⟨g, o, none⟩ = some (.int .i64 j) := by
 obtain ⟨base, ho⟩ := h.of;have hj := (List.getElem?_eq_some_iff.1 hx).1;obtain ⟨A', c', e, _, _, h0, h1⟩ := Zr ho;injection e with e _ e2
 subst e;subst e2
 cases AO with
 | none => have := (h0 rfl).1; omega
 | some a =>
  obtain ⟨ha, -, -⟩ := h1 a rfl;rw [ha] at ho ⊢;obtain ⟨_, h3, h4, h5, h6⟩ := Y2 ho;exact ⟨a.block, rfl, h3, h4, h5, h6 o _ (by rw [List.getElem?_map, hx]; rfl)⟩
end Go.Proofs.YtiheiaaifdjpeaaGreat

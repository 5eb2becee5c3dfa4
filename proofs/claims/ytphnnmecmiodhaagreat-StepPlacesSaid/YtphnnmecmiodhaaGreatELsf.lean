/- gnomonref14. Conditions in it. -/
import Derived.Test.YtphnnmecmiodhaaGreatESf
set_option linter.all false
namespace Go.Proofs.YtphnnmecmiodhaaGreat
open Go.RowKit Go.Shelf
theorem Zxd {w:World} {base:Nat} {v:Value} {q:GPt} {L:List (Int×Nat)} (h:w.ownsRow base 93 5 v L.length (L.flatMap (Zwq q))) {i:Nat} {x:Int×Nat} (hx:L[i]?=some x):∃ G c,v=.slice (some ⟨G,0,none⟩) L.length c/\
  ∀ W',w.grownBy W' none->W'.cell? ⟨G,i*5,none⟩=some (.int .i64 q.1)/\W'.cell? ⟨G,i*5+1,none⟩=some (.int .i64 q.2.1)/\W'.cell? ⟨G,i*5+2,none⟩=some (.int .i64 q.2.2)/\W'.cell? ⟨G,i*5+3,none⟩=some (.int .i64 x.1)/\W'.cell? ⟨G,i*5+4,none⟩=some (.int .i64 x.2):=by
 have hil:=(Le hx).1;obtain⟨A,c,rfl,-,-,h3,h4⟩:=Zz h
 cases A with
 |none=>have:=(h3 rfl).1;omega
 |some b=>
  obtain⟨e,-,-⟩:=h4 b rfl;rw[e] at h ⊢;obtain⟨-,-,-,-,h6⟩:=Xm h;have key:∀ j u,j<5->(Zwq q x)[j]?=some u->w.cell? ⟨b.block,i*5+j,none⟩=some u:=fun j u hj hu=>h6 (i*5+j) u (by rw[Qz (sz:=5) (fun _ _=>rfl) hx hj];exact hu)
  exact⟨b.block,c,rfl,fun W' hg=>⟨Zp hg (key 0 _ (by omega) rfl),Zp hg (key 1 _ (by omega) rfl),Zp hg (key 2 _ (by omega) rfl),Zp hg (key 3 _ (by omega) rfl),Zp hg (key 4 _ (by omega) rfl)⟩⟩

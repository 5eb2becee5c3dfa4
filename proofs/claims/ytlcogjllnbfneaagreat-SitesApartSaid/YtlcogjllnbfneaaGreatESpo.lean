/- Writing over a program's copy. No condition. -/
import Derived.Test.YtlcogjllnbfneaaGreatEPrg
set_option linter.all false
namespace Go.Proofs.YtlcogjllnbfneaaGreat
open Go.RowKit Go.Shelf
def KeepC (t:TypeId) (i:Nat) (a b:Option Value):Prop:=(t=37->b=a)/\(t=39->i % 2=1->b=a)/\(t=25->i % 8=6->b=a\/b=some (.slice none 0 0))
structure SpW (lo:Nat) (W0 w wr:World):Prop where
 chg:Chg (fun n=>lo<=n/\n<W0.heap.size) w wr
 obj:∀ (n:Nat) (cur:Array Value) (t:TypeId),W0.heap[n]?=some (.cells cur t (0,0))->∃ cur':Array Value,wr.heap[n]?=some (.cells cur' t (0,0))/\cur'.size=cur.size/\∀ i,KeepC t i cur[i]? cur'[i]?
theorem SpW.start (lo:Nat) {W0 w:World} (hg:W0.grownBy w none):SpW lo W0 w w:=⟨Chg.refl _ _,fun n cur _ h=>⟨cur,(hg.block n (Ze h) (by simp)).trans h,rfl,fun _=>⟨fun _=>rfl,fun _ _=>rfl,fun _ _=>.inl rfl⟩⟩⟩
theorem SpW.grown {lo:Nat} {W0 w wr w':World} (h:SpW lo W0 w wr) (hg:wr.grownBy w' none):SpW lo W0 w w':=
 ⟨h.chg.trans (Chg.grown (Q:=fun n=>lo<=n/\n<W0.heap.size) hg (fun r e=>by cases e)) (fun _ _ e=>e),fun n cur t hn=>by
  obtain⟨cur',h1,h2⟩:=h.obj n cur t hn
  exact⟨cur',(hg.block n (Ze h1) (by simp)).trans h1,h2⟩⟩
theorem SpW.set {lo:Nat} {W0 w wr:World} (h:SpW lo W0 w wr) {g i:Nat} {cur:Array Value} {t:TypeId} (hg:W0.heap[g]?=some (.cells cur t (0,0))) (hlo:lo<=g) (u:Value) (h1:t≠37) (h2:t=39->i % 2=0) (h3:t=25->i % 8=6->u=.slice none 0 0):
  SpW lo W0 w (wr.setCell ⟨g,i,none⟩ u):=by
 refine⟨h.chg.trans (Chg.set (Q:=fun n=>lo<=n/\n<W0.heap.size) wr (p:=⟨g,i,none⟩) ⟨hlo,Ze hg⟩ u) (fun _ _ e=>e),fun n cur2 t2 hn=>?_⟩;obtain⟨cur',k1,k2,k3⟩:=h.obj n cur2 t2 hn
 by_cases e:n=g
 ·subst e;rw[hg] at hn;simp only[Option.some.injEq,Obj.cells.injEq] at hn;obtain⟨rfl,rfl,-⟩:=hn;refine⟨_,Zs k1 i u,by simpa using k2,fun j=>?_⟩;rw[Array.getElem?_setIfInBounds]
  split
  ·rename_i hj
   subst hj
   split
   ·exact⟨fun e=>absurd e h1,fun e hm=>by have:=h2 e;omega,fun e hm=>.inr (by rw[h3 e hm])⟩
   ·rename_i hs
    have:=k3 i;rw[Array.getElem?_eq_none (xs:=cur') (by omega)] at this;exact this
  ·exact k3 j
 ·exact⟨cur',(Below.heap_setCell wr ⟨g,i,none⟩ u n (fun e2=>e e2)).trans k1,k2,k3⟩
theorem RowI.blk_at {α:Type} {sz G:Nat} {T:TypeId} {l:List α} {E:Nat->α->List Value->Prop} {w:World} (h:RowI sz T G l E w):∃ cur:Array Value,w.heap[G]?=some (.cells cur T (0,0))/\∀ k x,l[k]?=some x->∃ cs:List Value,cs.length=sz/\E k x cs/\∀ j u,cs[j]?=some u->cur[k*sz+j]?=some u:=by
 obtain⟨cur,h1,h2⟩:=h;refine⟨cur,h1,fun k x hx=>?_⟩;obtain⟨cs,h3,h4,h5⟩:=h2 k x hx;exact⟨cs,h3,h5,h4⟩
theorem Yjl {lo:Nat} {W0:World} {G:Nat} {p:GProg} (hr:RowI 3 37 G p (fun _ f cs=>∃ vp vb,cs=[.string ⟨f.name.toArray⟩,vp,vb]/\BlksT lo W0 f.bk9 vb) W0) {k:Nat} {f:GFun} (hf:p[k]?=some f):
  ∃ vb,BlksT lo W0 f.bk9 vb/\∀ w wr,SpW lo W0 w wr->wr.cell? ⟨G,k*3+2,none⟩=some vb:=by
 obtain⟨cur,h1,h2⟩:=hr.blk_at;obtain⟨cs,-,h4,h5⟩:=h2 k f hf;obtain⟨vp,vb,rfl,hb⟩:=h4;refine⟨vb,hb,fun w wr h=>?_⟩;obtain⟨cur',k1,k2,k3⟩:=h.obj G cur _ h1;rw[(Za k1).1,(k3 _).1 rfl];exact h5 2 _ rfl
theorem Yjc {lo:Nat} {W0:World} {G:Nat} {l:List GBlk} (hr:RowI 2 39 G l (fun _ y cs=>∃ vc,cs=[.string ⟨y.label.toArray⟩,vc]/\CodeT lo W0 y.code vc) W0) {k:Nat} {y:GBlk} (hy:l[k]?=some y):
  ∃ vc cur,CodeT lo W0 y.code vc/\W0.heap[G]?=some (.cells cur 39 (0,0))/\∀ w wr,SpW lo W0 w wr->wr.cell? ⟨G,k*2+1,none⟩=some vc/\(∃ u,wr.cell? ⟨G,k*2,none⟩=some u)/\∀ i,wr.frozen? ⟨G,i,none⟩=false:=by
 obtain⟨cur,h1,h2⟩:=hr.blk_at;obtain⟨cs,-,h4,h5⟩:=h2 k y hy;obtain⟨vc,rfl,hb⟩:=h4;refine⟨vc,cur,hb,h1,fun w wr h=>?_⟩;obtain⟨cur',k1,k2,k3⟩:=h.obj G cur _ h1;have h0:=(Array.getElem?_eq_some_iff.1 (h5 0 _ rfl)).1;exact⟨by rw[(Za k1).1,(k3 _).2.1 rfl (by omega)];exact h5 1 _ rfl,⟨_,by rw[(Za k1).1];exact Array.getElem?_eq_getElem (show k*2<cur'.size by omega)⟩,fun i=>(Za k1).2 i⟩
theorem SpW.ins {lo:Nat} {W0 w wr:World} (h:SpW lo W0 w wr) {G:Nat} {l:List GIns} (hr:RowI 8 25 G l (fun _ x cs=>∃ va vl,cs=insC x va vl/\InsT lo W0 x va) W0) {k:Nat} {x:GIns} (hx:l[k]?=some x):
  ∃ va cur n,W0.heap[G]?=some (.cells cur 25 (0,0))/\(∀ j,j<8->∃ u,wr.cell? ⟨G,k*8+j,none⟩=some u)/\(∀ i,wr.frozen? ⟨G,i,none⟩=false)/\wr.cell? ⟨G,k*8+6,none⟩=some va/\((va=.slice none 0 0/\n=0)\/∃ g c curs,va=.slice (some ⟨g,0,none⟩) n c/\n<=c/\c<=maxLen/\lo<=g/\W0.heap[g]?=some (.cells curs 9 (0,0))/\n<=curs.size):=by
 obtain⟨cur,h1,h2⟩:=hr.blk_at;obtain⟨cs,-,h4,h5⟩:=h2 k x hx;obtain⟨va,vl,rfl,ho⟩:=h4;obtain⟨cur',k1,k2,k3⟩:=h.obj G cur _ h1;have h7:=(Array.getElem?_eq_some_iff.1 (h5 7 _ rfl)).1;have hall:∀ j,j<8->∃ u,wr.cell? ⟨G,k*8+j,none⟩=some u:=fun j hj=>⟨_,by rw[(Za k1).1];exact Array.getElem?_eq_getElem (show k*8+j<cur'.size by omega)⟩
 rcases (k3 (k*8+6)).2.2 rfl (by omega) with e|e
 ·have e6:wr.cell? ⟨G,k*8+6,none⟩=some va:=by rw[(Za k1).1,e];exact h5 6 _ rfl
  obtain⟨hl,h3⟩:=ho
  rcases h3 with ⟨rfl,h0⟩|⟨g,cap,curs,rfl,hb,hh,hc,hm,hcs,ht⟩
  ·exact⟨_,cur,0,h1,hall,fun i=>(Za k1).2 i,e6,.inl ⟨rfl,rfl⟩⟩
  ·refine⟨_,cur,x.args.length,h1,hall,fun i=>(Za k1).2 i,e6,.inr ⟨g,cap,curs,rfl,hc,hm,hb,hh,?_⟩⟩;have:=congrArg List.length ht;simp only[List.length_take,List.length_map,Array.length_toList] at this;omega
 ·exact⟨_,cur,0,h1,hall,fun i=>(Za k1).2 i,by rw[(Za k1).1,e],.inl ⟨rfl,rfl⟩⟩
theorem SpW.text {lo:Nat} {W0 w wr:World} (h:SpW lo W0 w wr) {g n:Nat} {cur:Array Value} {t:TypeId} (hg:W0.heap[g]?=some (.cells cur t (0,0))) (hn:n<cur.size):(∃ u,wr.cell? ⟨g,n,none⟩=some u)/\wr.frozen? ⟨g,n,none⟩=false:=by
 obtain⟨cur',k1,k2,k3⟩:=h.obj g cur _ hg;exact⟨⟨_,by rw[(Za k1).1];exact Array.getElem?_eq_getElem (show n<cur'.size by omega)⟩,(Za k1).2 n⟩

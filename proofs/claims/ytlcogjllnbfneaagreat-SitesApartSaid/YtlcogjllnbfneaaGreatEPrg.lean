/- sites. Conditions in it. -/
import Derived.Test.YtlcogjllnbfneaaGreatECpy
set_option maxHeartbeats 20000000
set_option maxRecDepth 100000
set_option linter.all false
namespace Go.Proofs.YtlcogjllnbfneaaGreat
open Lib(hid)
open Go.RowKit Go.Shelf
def RowI {α:Type} (sz:Nat) (T:TypeId) (G:Nat) (l:List α) (E:Nat->α->List Value->Prop) (w:World):Prop:=
 ∃ cur,w.heap[G]?=some (.cells cur T (0,0))/\∀ k x,l[k]?=some x->∃ cs:List Value,cs.length=sz/\(∀ j u,cs[j]?=some u->cur[k*sz+j]?=some u)/\E k x cs
theorem Zvw {sz k k' j j':Nat} (hj:j<sz) (hj':j'<sz) (h:k*sz+j=k'*sz+j'):k=k'/\j=j':=by
 have h1:(k*sz+j) / sz=k:=by rw[Nat.mul_comm,Nat.mul_add_div (by omega),Nat.div_eq_of_lt hj];rfl
 have h2:(k'*sz+j') / sz=k':=by rw[Nat.mul_comm,Nat.mul_add_div (by omega),Nat.div_eq_of_lt hj'];rfl
 have:k=k':=by rw[<-h1,h,h2]
 subst this;exact⟨rfl,by omega⟩
theorem RowI.lt {α:Type} {sz G:Nat} {T:TypeId} {l:List α} {E:Nat->α->List Value->Prop} {w:World} (h:RowI sz T G l E w):G<w.heap.size:=by
 obtain⟨_,h1,_⟩:=h;exact Ze h1
theorem RowI.imp {α:Type} {sz G:Nat} {T:TypeId} {l:List α} {E E':Nat->α->List Value->Prop} {w w':World} (h:RowI sz T G l E w) (hG:w'.heap[G]?=w.heap[G]?) (hE:∀ k x cs,l[k]?=some x->E k x cs->E' k x cs):RowI sz T G l E' w':=by
 obtain⟨cur,h1,h2⟩:=h;refine⟨cur,hG.trans h1,fun k x hx=>?_⟩;obtain⟨cs,h3,h4,h5⟩:=h2 k x hx;exact⟨cs,h3,h4,hE k x cs hx h5⟩
theorem RowI.at_ {α:Type} {sz G:Nat} {T:TypeId} {l:List α} {E:Nat->α->List Value->Prop} {w:World} (h:RowI sz T G l E w) {k:Nat} {x:α} (hx:l[k]?=some x):∃ cs:List Value,cs.length=sz/\E k x cs/\∀ j u,cs[j]?=some u->w.cell? ⟨G,k*sz+j,none⟩=some u/\w.frozen? ⟨G,k*sz+j,none⟩=false:=by
 obtain⟨cur,h1,h2⟩:=h;obtain⟨cs,h3,h4,h5⟩:=h2 k x hx;exact⟨cs,h3,h5,fun j u hu=>⟨((Za h1).1 _).trans (h4 j u hu),(Za h1).2 _⟩⟩
theorem RowI.set {α:Type} {sz G:Nat} {T:TypeId} {l:List α} {E:Nat->α->List Value->Prop} {w:World} (h:RowI sz T G l E w) {k j:Nat} {x:α} (hx:l[k]?=some x) (hj:j<sz) (u:Value):RowI sz T G l (fun k' x' cs=>if k'=k then ∃ cs0,cs=cs0.set j u/\E k x cs0 else E k' x' cs) (w.setCell ⟨G,k*sz+j,none⟩ u):=by
 obtain⟨cur,h1,h2⟩:=h;refine⟨_,Zs h1 (k*sz+j) u,fun k' x' hx'=>?_⟩;obtain⟨cs,h3,h4,h5⟩:=h2 k' x' hx'
 by_cases e:k'=k
 ·subst e;rw[hx] at hx';injection hx' with hx'
  subst hx';refine⟨cs.set j u,by simpa using h3,fun i v hv=>?_,by dsimp only;rw[if_pos rfl];exact⟨cs,rfl,h5⟩⟩;have hi:i<cs.length:=by
   have:=(Le hv).1;simpa using this
  have hin:k'*sz+j<cur.size:=by
   have:=h4 j _ (Ld (show j<cs.length by omega));exact (Array.getElem?_eq_some_iff.1 this).1
  by_cases e2:i=j
  ·subst e2;rw[List.getElem?_set_self (by omega)] at hv;rw[Array.getElem?_setIfInBounds,if_pos rfl,if_pos hin];exact hv
  ·rw[List.getElem?_set_ne (fun e=>e2 e.symm)] at hv;rw[Array.getElem?_setIfInBounds,if_neg (by omega)];exact h4 i v hv
 ·refine⟨cs,h3,fun i v hv=>?_,by dsimp only;rw[if_neg e];exact h5⟩;have hi:=(Le hv).1;rw[Array.getElem?_setIfInBounds,if_neg (fun e3=>e (Zvw hj (by omega) e3).1.symm)];exact h4 i v hv
theorem Yji {lo n sz:Nat} {e:TypeId} {w W:World} {B:Nat} {v:Value} {xs:List Value} (h:w.ownsRow lo e sz v n xs) (hs:SupI lo w W B):W.ownsRow lo e sz v n xs:=by
 obtain⟨hl,h2⟩:=h;refine⟨hl,?_⟩
 rcases h2 with h2|⟨g,cap,cur,rfl,hb,hh,r⟩
 ·exact .inl h2
 ·exact .inr ⟨g,cap,cur,rfl,hb,(hs g hb (Ze hh)).2.trans hh,r⟩
def insC (x:GIns) (va vl:Value):List Value:=[.int .u8 x.op,.string ⟨x.dst.toArray⟩,.string ⟨x.a.toArray⟩,.string ⟨x.b.toArray⟩,.int .i64 x.n,.string ⟨x.fn.toArray⟩,va,vl]
def InsT (lo:Nat) (W:World) (x:GIns) (va:Value):Prop:=W.ownsRow lo 9 1 va x.args.length (x.args.map encS)
def CodeT (lo:Nat) (W:World) (l:List GIns) (v:Value):Prop:=∃ G c,v=.slice (some ⟨G,0,none⟩) l.length c/\lo<=G/\l.length<=c/\c<=maxLen/\RowI 8 25 G l (fun _ x cs=>∃ va vl,cs=insC x va vl/\InsT lo W x va) W
def BlksT (lo:Nat) (W:World) (l:List GBlk) (v:Value):Prop:=∃ G c,v=.slice (some ⟨G,0,none⟩) l.length c/\lo<=G/\l.length<=c/\c<=maxLen/\RowI 2 39 G l (fun _ y cs=>∃ vc,cs=[.string ⟨y.label.toArray⟩,vc]/\CodeT lo W y.code vc) W
def ProgT (lo:Nat) (W:World) (l:GProg) (v:Value):Prop:=∃ G c,v=.slice (some ⟨G,0,none⟩) l.length c/\lo<=G/\l.length<=c/\c<=maxLen/\RowI 3 37 G l (fun _ f cs=>∃ vp vb,cs=[.string ⟨f.name.toArray⟩,vp,vb]/\BlksT lo W f.bk9 vb) W
theorem CodeT.lower {lo lo':Nat} {W:World} {l:List GIns} {v:Value} (h:CodeT lo W l v) (hl:lo'<=lo):CodeT lo' W l v:=by
 obtain⟨G,c,e,h1,h2,h3,h4⟩:=h;refine⟨G,c,e,Nat.le_trans hl h1,h2,h3,h4.imp rfl fun k x cs hx hE=>?_⟩;obtain⟨va,vl,e,h⟩:=hE;exact⟨va,vl,e,Zcy h hl⟩
theorem BlksT.lower {lo lo':Nat} {W:World} {l:List GBlk} {v:Value} (h:BlksT lo W l v) (hl:lo'<=lo):BlksT lo' W l v:=by
 obtain⟨G,c,e,h1,h2,h3,h4⟩:=h;refine⟨G,c,e,Nat.le_trans hl h1,h2,h3,h4.imp rfl fun k x cs hx hE=>?_⟩;obtain⟨vc,e,h⟩:=hE;exact⟨vc,e,h.lower hl⟩
def FunE (w wr:World) (B G k:Nat):Nat->GFun->List Value->Prop:=fun j f cs=>∃ vp vb,cs=[.string ⟨f.name.toArray⟩,vp,vb]/\vp.oneCell'=true/\vb.oneCell'=true/\if j<k then (∀ W B',SupI (G+1) wr W B'->FunAt W B' f vp vb/\BlksT (G+1) W f.bk9 vb) else FunAt w B f vp vb
def BlkE (w wr:World) (B G k:Nat):Nat->GBlk->List Value->Prop:=fun j y cs=>∃ vc,cs=[.string ⟨y.label.toArray⟩,vc]/\vc.oneCell'=true/\if j<k then (∀ W B',SupI (G+1) wr W B'->BlkAt W B' y vc/\CodeT (G+1) W y.code vc) else BlkAt w B y vc
def InsE (w wr:World) (B G k:Nat):Nat->GIns->List Value->Prop:=fun j x cs=>∃ va vl,cs=insC x va vl/\va.oneCell'=true/\vl.oneCell'=true/\if j<k then (∀ W B',SupI (G+1) wr W B'->InsAt W B' x va vl/\InsT (G+1) W x va) else InsAt w B x va vl
theorem FunE.step {w wr w1:World} {B G k j:Nat} {f:GFun} {cs:List Value} {Q:Nat->Prop} (h:FunE w wr B G k j f cs) (hg:Chg Q wr w1) (hq:∀ n,G<n->n<wr.heap.size->¬ Q n):FunE w w1 B G k j f cs:=by
 obtain⟨vp,vb,h1,h2,h3,h4⟩:=h;refine⟨vp,vb,h1,h2,h3,?_⟩
 split at h4
 ·rename_i e;rw[if_pos e];exact fun W B' hs=>h4 W B' (hs.chg hg (fun n h5 h6=>hq n (by omega) h6))
 ·rename_i e;rw[if_neg e];exact h4
theorem BlkE.step {w wr w1:World} {B G k j:Nat} {y:GBlk} {cs:List Value} {Q:Nat->Prop} (h:BlkE w wr B G k j y cs) (hg:Chg Q wr w1) (hq:∀ n,G<n->n<wr.heap.size->¬ Q n):BlkE w w1 B G k j y cs:=by
 obtain⟨vc,h1,h2,h4⟩:=h;refine⟨vc,h1,h2,?_⟩
 split at h4
 ·rename_i e;rw[if_pos e];exact fun W B' hs=>h4 W B' (hs.chg hg (fun n h5 h6=>hq n (by omega) h6))
 ·rename_i e;rw[if_neg e];exact h4
theorem InsE.step {w wr w1:World} {B G k j:Nat} {x:GIns} {cs:List Value} {Q:Nat->Prop} (h:InsE w wr B G k j x cs) (hg:Chg Q wr w1) (hq:∀ n,G<n->n<wr.heap.size->¬ Q n):InsE w w1 B G k j x cs:=by
 obtain⟨va,vl,h1,h2,h3,h4⟩:=h;refine⟨va,vl,h1,h2,h3,?_⟩
 split at h4
 ·rename_i e;rw[if_pos e];exact fun W B' hs=>h4 W B' (hs.chg hg (fun n h5 h6=>hq n (by omega) h6))
 ·rename_i e;rw[if_neg e];exact h4
theorem RowI.of_fun {w':World} {B g:Nat} {cur:Array Value} {l:List GFun} (hh:w'.heap[g]?=some (.cells cur 37 (0,0))) (hR:∀ k x,l[k]?=some x->funR w' B g (k*3) x):RowI 3 37 g l (FunE w' w' B g 0) w':=
 ⟨cur,hh,fun k x hx=>by
  obtain⟨A1,d1,A2,d2,h,_,_,e0,e1,e2⟩:=Yh (hR k x hx)
  refine⟨_,rfl,fun j u hu=>?_,⟨_,_,rfl,rfl,rfl,by rw[if_neg (Nat.not_lt_zero k)];exact h⟩⟩
  match j,hu with
  |0,hu=>cases hu;rw[<-(Za hh).1];exact e0
  |1,hu=>cases hu;rw[<-(Za hh).1];exact e1
  |2,hu=>cases hu;rw[<-(Za hh).1];exact e2⟩
theorem RowI.of_blk {w':World} {B g:Nat} {cur:Array Value} {l:List GBlk} (hh:w'.heap[g]?=some (.cells cur 39 (0,0))) (hR:∀ k x,l[k]?=some x->blkR w' B g (k*2) x):RowI 2 39 g l (BlkE w' w' B g 0) w':=
 ⟨cur,hh,fun k x hx=>by
  obtain⟨A1,d1,h,_,e0,e1⟩:=Yg (hR k x hx)
  refine⟨_,rfl,fun j u hu=>?_,⟨_,rfl,rfl,by rw[if_neg (Nat.not_lt_zero k)];exact h⟩⟩
  match j,hu with
  |0,hu=>cases hu;rw[<-(Za hh).1];exact e0
  |1,hu=>cases hu;rw[<-(Za hh).1];exact e1⟩
theorem RowI.of_ins {w':World} {B g:Nat} {cur:Array Value} {l:List GIns} (hh:w'.heap[g]?=some (.cells cur 25 (0,0))) (hR:∀ k x,l[k]?=some x->insR w' B g (k*8) x):RowI 8 25 g l (InsE w' w' B g 0) w':=
 ⟨cur,hh,fun k x hx=>by
  obtain⟨A1,d1,A2,d2,h,_,_,e0,e1,e2,e3,e4,e5,e6,e7⟩:=Yw (hR k x hx)
  refine⟨_,rfl,fun j u hu=>?_,⟨_,_,rfl,rfl,rfl,by rw[if_neg (Nat.not_lt_zero k)];exact h⟩⟩
  match j,hu with
  |0,hu=>cases hu;rw[<-(Za hh).1];exact e0
  |1,hu=>cases hu;rw[<-(Za hh).1];exact e1
  |2,hu=>cases hu;rw[<-(Za hh).1];exact e2
  |3,hu=>cases hu;rw[<-(Za hh).1];exact e3
  |4,hu=>cases hu;rw[<-(Za hh).1];exact e4
  |5,hu=>cases hu;rw[<-(Za hh).1];exact e5
  |6,hu=>cases hu;rw[<-(Za hh).1];exact e6
  |7,hu=>cases hu;rw[<-(Za hh).1];exact e7⟩
theorem RowI.slice {α:Type} {R:Rdr α} {sz G:Nat} {T:TypeId} {l:List α} {E:Nat->α->List Value->Prop} {wr W:World} {B' c:Nat} (h:RowI sz T G l E wr) (hs:SupI G wr W B') (hc:l.length<=c) (hm:c<=maxLen)
  (hR:∀ k x cs,l[k]?=some x->E k x cs->(∀ j u,cs[j]?=some u->W.cell? ⟨G,k*sz+j,none⟩=some u)->R W B' G (k*sz) x):SlAt R sz W B' (.slice (some ⟨G,0,none⟩) l.length c) l:=by
 have hG:=h.lt;obtain⟨h1,h2⟩:=hs G (Lf _) hG;refine⟨_,c,rfl,hc,hm,fun k x hx=>⟨G,0,rfl,h1,?_⟩⟩;rw[Nat.zero_add];obtain⟨cs,_,h4,h5⟩:=h.at_ hx;exact hR k x cs hx h4 fun j u hu=>(Lj h2).trans (h5 j u hu).1
theorem RowI.code {w wr W:World} {B G c B':Nat} {l:List GIns} (h:RowI 8 25 G l (InsE w wr B G l.length) wr) (hc:l.length<=c) (hm:c<=maxLen) (hs:SupI G wr W B'):CodeAt W B' (.slice (some ⟨G,0,none⟩) l.length c) l:=
 h.slice hs hc hm fun k x cs hx hE hcell=>by
  obtain⟨va,vl,rfl,_,_,h4⟩:=hE;rw[if_pos (List.getElem?_eq_some_iff.1 hx).1] at h4;exact⟨va,vl,(h4 W B' (hs.mono (Nat.le_succ _))).1,hcell 0 _ rfl,hcell 1 _ rfl,hcell 2 _ rfl,hcell 3 _ rfl,hcell 4 _ rfl,hcell 5 _ rfl,hcell 6 _ rfl,hcell 7 _ rfl⟩
theorem RowI.bk9 {w wr W:World} {B G c B':Nat} {l:List GBlk} (h:RowI 2 39 G l (BlkE w wr B G l.length) wr) (hc:l.length<=c) (hm:c<=maxLen) (hs:SupI G wr W B'):BlocksAt W B' (.slice (some ⟨G,0,none⟩) l.length c) l:=
 h.slice hs hc hm fun k x cs hx hE hcell=>by
  obtain⟨vc,rfl,_,h4⟩:=hE;rw[if_pos (List.getElem?_eq_some_iff.1 hx).1] at h4;exact⟨vc,(h4 W B' (hs.mono (Nat.le_succ _))).1,hcell 0 _ rfl,hcell 1 _ rfl⟩
theorem RowI.funcs {w wr W:World} {B G c B':Nat} {l:GProg} (h:RowI 3 37 G l (FunE w wr B G l.length) wr) (hc:l.length<=c) (hm:c<=maxLen) (hs:SupI G wr W B'):ProgAt W B' (.slice (some ⟨G,0,none⟩) l.length c) l:=
 h.slice hs hc hm fun k x cs hx hE hcell=>by
  obtain⟨vp,vb,rfl,_,_,h4⟩:=hE;rw[if_pos (List.getElem?_eq_some_iff.1 hx).1] at h4;exact⟨vp,vb,(h4 W B' (hs.mono (Nat.le_succ _))).1,hcell 0 _ rfl,hcell 1 _ rfl,hcell 2 _ rfl⟩
theorem RowI.codeT {w wr W:World} {B G c B':Nat} {l:List GIns} (h:RowI 8 25 G l (InsE w wr B G l.length) wr) (hc:l.length<=c) (hm:c<=maxLen) (hs:SupI G wr W B'):CodeT G W l (.slice (some ⟨G,0,none⟩) l.length c):=
 ⟨G,c,rfl,Lf _,hc,hm,h.imp (hs G (Lf _) h.lt).2 fun k x cs hx hE=>by
  obtain⟨va,vl,rfl,_,_,h4⟩:=hE
  rw[if_pos (List.getElem?_eq_some_iff.1 hx).1] at h4
  exact⟨va,vl,rfl,Zcy (h4 W B' (hs.mono (Nat.le_succ _))).2 (Nat.le_succ G)⟩⟩
theorem RowI.blksT {w wr W:World} {B G c B':Nat} {l:List GBlk} (h:RowI 2 39 G l (BlkE w wr B G l.length) wr) (hc:l.length<=c) (hm:c<=maxLen) (hs:SupI G wr W B'):BlksT G W l (.slice (some ⟨G,0,none⟩) l.length c):=
 ⟨G,c,rfl,Lf _,hc,hm,h.imp (hs G (Lf _) h.lt).2 fun k x cs hx hE=>by
  obtain⟨vc,rfl,_,h4⟩:=hE
  rw[if_pos (List.getElem?_eq_some_iff.1 hx).1] at h4
  exact⟨vc,rfl,(h4 W B' (hs.mono (Nat.le_succ _))).2.lower (Nat.le_succ G)⟩⟩
theorem RowI.progT {w wr W:World} {B G c B':Nat} {l:GProg} (h:RowI 3 37 G l (FunE w wr B G l.length) wr) (hc:l.length<=c) (hm:c<=maxLen) (hs:SupI G wr W B'):ProgT G W l (.slice (some ⟨G,0,none⟩) l.length c):=
 ⟨G,c,rfl,Lf _,hc,hm,h.imp (hs G (Lf _) h.lt).2 fun k x cs hx hE=>by
  obtain⟨vp,vb,rfl,_,_,h4⟩:=hE
  rw[if_pos (List.getElem?_eq_some_iff.1 hx).1] at h4
  exact⟨vp,vb,rfl,(h4 W B' (hs.mono (Nat.le_succ _))).2.lower (Nat.le_succ G)⟩⟩
theorem ProgT.lower {lo lo':Nat} {W:World} {l:GProg} {v:Value} (h:ProgT lo W l v) (hl:lo'<=lo):ProgT lo' W l v:=by
 obtain⟨G,c,e,h1,h2,h3,h4⟩:=h;refine⟨G,c,e,Nat.le_trans hl h1,h2,h3,h4.imp rfl fun k x cs hx hE=>?_⟩;obtain⟨vp,vb,e,h⟩:=hE;exact⟨vp,vb,e,h.lower hl⟩
structure CpOk (p:GProg):Prop where
 ne:p≠[]
 len:p.length<=65536
 params:∀ f∈p,f.params.length<=65536
 bk9:∀ f∈p,f.bk9≠[]/\f.bk9.length<=65536
 code:∀ f∈p,∀ y∈f.bk9,y.code≠[]/\y.code.length<=65536
structure OutI (w:World) (B PB RB G c k:Nat) (p:GProg) (wr:World):Prop where
 grown:w.grownBy wr none
 pb:wr.heap[PB]?=some (.cells #[.slice (some ⟨G,0,none⟩) p.length c] 47 (0,0))
 rb:wr.heap[RB]?=some (.cells #[.slice none 0 0] 47 (0,0))
 row:RowI 3 37 G p (FunE w wr B G k) wr
structure MidI (w:World) (B G k:Nat) (p:GProg) (f:GFun) (wr:World) (vP:Value) (G1 c2:Nat) (wx:World):Prop where
 chg:Chg (fun n=>n=G) wr wx
 row:RowI 3 37 G p (fun j f' cs=>if j=k then cs=[.string ⟨f.name.toArray⟩,vP,.slice (some ⟨G1,0,none⟩) f.bk9.length c2] else FunE w wr B G k j f' cs) wx
 par:wx.ownsRow wr.heap.size 9 1 vP f.params.length (f.params.map encS)
 lo:wr.heap.size<=G1
 pne:∀ g,vP.ownBlock=some g->g<G1
 c1:f.bk9.length<=c2
 c2:c2<=maxLen
 blk:RowI 2 39 G1 f.bk9 (BlkE w wx B G1 0) wx
theorem MidI.make {w:World} {B G k c4 c5:Nat} {p:GProg} {f:GFun} {wr w3 w4:World} {A4 A5:Option Addr} (hgr:w.grownBy wr none) (hB:B<=w.heap.size) (hrow:RowI 3 37 G p (FunE w wr B G k) wr) (hf:p[k]?=some f) (hg3:wr.grownBy w3 none)
  (ho3:w3.ownsRow wr.heap.size 9 1 (.slice A4 f.params.length c4) f.params.length (f.params.map encS)) (hg4:wr.grownBy w4 none) (hb4:Below w3.heap.size w3 w4) (hl5:f.bk9.length<=c5) (hm5:c5<=maxLen)
  {G1:Nat} {cur:Array Value} (hA:A5=some ⟨G1,0,none⟩) (hG1:w3.heap.size<=G1) (hh:w4.heap[G1]?=some (.cells cur 39 (0,0))) (hR:∀ k x,f.bk9[k]?=some x->blkR w4 B G1 (k*2) x):
  MidI w B G k p f wr (.slice A4 f.params.length c4) G1 c5 ((w4.setCell ⟨G,k*3+1,none⟩ (.slice A4 f.params.length c4)).setCell ⟨G,k*3+2,none⟩ (.slice A5 f.bk9.length c5)):=by
 subst hA;have hGl:=hrow.lt;have hs3:=hg3.size;have hgs:w4.grownBy ((w4.setCell ⟨G,k*3+1,none⟩ (.slice A4 f.params.length c4)).setCell ⟨G,k*3+2,none⟩ (.slice (some ⟨G1,0,none⟩) f.bk9.length c5)) (some G):=Zn (p:=⟨G,k*3+2,none⟩) (Zn (p:=⟨G,k*3+1,none⟩) (Lb w4 (some G)) rfl _) rfl _;refine⟨(Chg.grown (Q:=fun n=>n=G) hg4 (fun r e=>by cases e)).trans (Chg.grown (Q:=fun n=>n=G) hgs (fun r e=>by injection e with e;exact e.symm)) (fun _ _ e=>e),?_,?_,by omega,fun g e=>Lm (ho3.lt g e).2 hG1,hl5,hm5,?_⟩
 ·have h4:RowI 3 37 G p (FunE w wr B G k) w4:=hrow.imp (hg4.block G hGl (by simp)) (fun _ _ _ _ h=>h);refine ((h4.set hf (j:=1) (by decide) (.slice A4 f.params.length c4)).set hf (j:=2) (by decide) (.slice (some ⟨G1,0,none⟩) f.bk9.length c5)).imp rfl fun j f' cs hx hE=>?_
  by_cases e:j=k
  ·simp only[e,if_true] at hE ⊢;obtain⟨cs1,rfl,cs0,rfl,vp,vb,rfl,_⟩:=hE;rfl
  ·simp only[e,if_false] at hE ⊢;exact hE
 ·refine (ho3.kept (Zj hb4) (by cases (Value.slice A4 f.params.length c4).ownBlock<;>simp)).kept hgs (.inr fun e=>?_);have:=(ho3.lt _ e).1;omega
 ·refine (RowI.of_blk hh hR).imp (hgs.block G1 (Ze hh) (by intro e;injection e with e;omega)) fun j y cs hx hE=>?_
  obtain⟨vc,h1,h2,h3⟩:=hE;rw[if_neg (Nat.not_lt_zero j)] at h3;exact⟨vc,h1,h2,by rw[if_neg (Nat.not_lt_zero j)];exact h3.keep fun q hq=>((Zk (Zb hgr hg4)).cell (Lm hq hB)).symm⟩
structure BlkI (w:World) (B G1 j:Nat) (f:GFun) (w6 wx:World):Prop where
 chg:Chg (fun n=>n=G1) w6 wx
 row:RowI 2 39 G1 f.bk9 (BlkE w wx B G1 j) wx
structure CdI (w:World) (B G1 j:Nat) (f:GFun) (y:GBlk) (wx:World) (G2 c3:Nat) (wz:World):Prop where
 chg:Chg (fun n=>n=G1) wx wz
 row:RowI 2 39 G1 f.bk9 (fun i y' cs=>if i=j then cs=[.string ⟨y.label.toArray⟩,.slice (some ⟨G2,0,none⟩) y.code.length c3] else BlkE w wx B G1 j i y' cs) wz
 lo:wx.heap.size<=G2
 c1:y.code.length<=c3
 c2:c3<=maxLen
 ins:RowI 8 25 G2 y.code (InsE w wz B G2 0) wz
structure InI (w:World) (B G2 i:Nat) (y:GBlk) (w11 wz:World):Prop where
 chg:Chg (fun n=>n=G2) w11 wz
 row:RowI 8 25 G2 y.code (InsE w wz B G2 i) wz
theorem CdI.make {w:World} {B G1 j c3:Nat} {f:GFun} {y:GBlk} {wx w4:World} (hgr:Below w.heap.size w wx) (hB:B<=w.heap.size) (hrow:RowI 2 39 G1 f.bk9 (BlkE w wx B G1 j) wx) (hy:f.bk9[j]?=some y)
  (hb4:Below wx.heap.size wx w4) (hl:y.code.length<=c3) (hm:c3<=maxLen) {G2:Nat} {cur:Array Value} (hG2:wx.heap.size<=G2) (hh:w4.heap[G2]?=some (.cells cur 25 (0,0))) (hR:∀ k x,y.code[k]?=some x->insR w4 B G2 (k*8) x):
  CdI w B G1 j f y wx G2 c3 (w4.setCell ⟨G1,j*2+1,none⟩ (.slice (some ⟨G2,0,none⟩) y.code.length c3)):=by
 have hGl:=hrow.lt;have hgs:w4.grownBy (w4.setCell ⟨G1,j*2+1,none⟩ (.slice (some ⟨G2,0,none⟩) y.code.length c3)) (some G1):=Zn (p:=⟨G1,j*2+1,none⟩) (Lb w4 (some G1)) rfl _;refine⟨(Chg.grown (Q:=fun n=>n=G1) (Zj hb4) (fun r e=>by cases e)).trans (Chg.grown (Q:=fun n=>n=G1) hgs (fun r e=>by injection e with e;exact e.symm)) (fun _ _ e=>e),?_,hG2,hl,hm,?_⟩
 ·have h4:RowI 2 39 G1 f.bk9 (BlkE w wx B G1 j) w4:=hrow.imp (hb4.block G1 hGl) (fun _ _ _ _ h=>h);refine (h4.set hy (j:=1) (by decide) (.slice (some ⟨G2,0,none⟩) y.code.length c3)).imp rfl fun i y' cs hx hE=>?_
  by_cases e:i=j
  ·simp only[e,if_true] at hE ⊢;obtain⟨cs0,rfl,vc,rfl,_⟩:=hE;rfl
  ·simp only[e,if_false] at hE ⊢;exact hE
 ·refine (RowI.of_ins hh hR).imp (hgs.block G2 (Ze hh) (by intro e;injection e with e;omega)) fun i x cs hx hE=>?_
  obtain⟨va,vl,h1,h2,h3,h4⟩:=hE;rw[if_neg (Nat.not_lt_zero i)] at h4;exact⟨va,vl,h1,h2,h3,by rw[if_neg (Nat.not_lt_zero i)];exact h4.keep fun q hq=>((hgr.trans (hb4.mono hgr.size)).cell (Lm hq hB)).symm⟩
def Zqu (w:World) (g o:Nat) (a b c d e f h i:Value):World:=(((((((w.setCell ⟨g,o,none⟩ a).setCell ⟨g,o+1,none⟩ b).setCell ⟨g,o+2,none⟩ c).setCell ⟨g,o+3,none⟩ d).setCell ⟨g,o+4,none⟩ e).setCell ⟨g,o+5,none⟩ f).setCell ⟨g,o+6,none⟩ h).setCell ⟨g,o+7,none⟩ i
theorem InI.step {w:World} {B G2 i:Nat} {y:GBlk} {w11 wz w4:World} (h:InI w B G2 i y w11 wz) {x:GIns} (hx:y.code[i]?=some x) (hg:wz.grownBy w4 none) {va vl:Value} (ha:va.oneCell'=true) (hl:vl.oneCell'=true) (hlo:G2<wz.heap.size) (hs:InsS wz.heap.size w4 x va vl) (ho:w4.ownsRow wz.heap.size 9 1 va x.args.length (x.args.map encS)):
  InI w B G2 (i+1) y w11 (Zqu w4 G2 (i*8) (.int .u8 x.op) (.string ⟨x.dst.toArray⟩) (.string ⟨x.a.toArray⟩) (.string ⟨x.b.toArray⟩) (.int .i64 x.n) (.string ⟨x.fn.toArray⟩) va vl):=by
 have hgs:Chg (fun n=>n=G2) w4 (Zqu w4 G2 (i*8) (.int .u8 x.op) (.string ⟨x.dst.toArray⟩) (.string ⟨x.a.toArray⟩) (.string ⟨x.b.toArray⟩) (.int .i64 x.n) (.string ⟨x.fn.toArray⟩) va vl):=by
  unfold Zqu;have q:∀ (w:World) (o:Nat) (u:Value),Chg (fun n=>n=G2) w (w.setCell ⟨G2,o,none⟩ u):=fun w o u=>Chg.set w (Q:=fun n=>n=G2) (p:=⟨G2,o,none⟩) rfl u
  exact (((((((q _ _ _).trans (q _ _ _) (fun _ _ e=>e)).trans (q _ _ _) (fun _ _ e=>e)).trans (q _ _ _) (fun _ _ e=>e)).trans (q _ _ _) (fun _ _ e=>e)).trans (q _ _ _) (fun _ _ e=>e)).trans (q _ _ _) (fun _ _ e=>e)).trans (q _ _ _) (fun _ _ e=>e)
 have hgz:Chg (fun n=>n=G2) wz (Zqu w4 G2 (i*8) (.int .u8 x.op) (.string ⟨x.dst.toArray⟩) (.string ⟨x.a.toArray⟩) (.string ⟨x.b.toArray⟩) (.int .i64 x.n) (.string ⟨x.fn.toArray⟩) va vl):=
  (Chg.grown (Q:=fun n=>n=G2) hg (fun r e=>by cases e)).trans hgs (fun _ _ e=>e)
 refine⟨h.chg.trans hgz (fun _ _ e=>e),?_⟩;have h4:RowI 8 25 G2 y.code (InsE w wz B G2 i) w4:=h.row.imp (hg.block G2 h.row.lt (by simp)) (fun _ _ _ _ h=>h);have h5:=(((((((h4.set hx (j:=0) (by decide) (.int .u8 x.op)).set hx (j:=1) (by decide) (.string ⟨x.dst.toArray⟩)).set hx (j:=2) (by decide) (.string ⟨x.a.toArray⟩)).set hx (j:=3) (by decide) (.string ⟨x.b.toArray⟩)).set hx (j:=4) (by decide) (.int .i64 x.n)).set hx (j:=5) (by decide) (.string ⟨x.fn.toArray⟩)).set hx (j:=6) (by decide) va).set hx (j:=7) (by decide) vl;refine h5.imp rfl fun k x' cs hx' hE=>?_
 by_cases e:k=i
 ·subst e;simp only[if_true] at hE;obtain⟨_,rfl,_,rfl,_,rfl,_,rfl,_,rfl,_,rfl,_,rfl,_,rfl,va0,vl0,rfl,_⟩:=hE;rw[hx] at hx';injection hx' with hx'
  subst hx';refine⟨va,vl,rfl,ha,hl,?_⟩;rw[if_pos (Nat.lt_succ_self k)];intro W' B' hs';have hs3:SupI wz.heap.size w4 W' B':=fun n h1 h2=>(hs'.chg hgs (fun n h1 h2 e=>by omega)) n (by omega) h2
  exact⟨hs W' B' hs3,Zcy (Yji ho hs3) hlo⟩
 ·simp only[e,if_false] at hE;obtain⟨va',vl',h1,h2,h3,h6⟩:=hE.step hgz (fun n h1 _=>by omega);refine⟨va',vl',h1,h2,h3,?_⟩
  by_cases e2:k<i
  ·rw[if_pos e2] at h6;rw[if_pos (by omega)];exact h6
  ·rw[if_neg e2] at h6;rw[if_neg (by omega)];exact h6
theorem BlkI.step {w:World} {B G1 G2 j c3:Nat} {f:GFun} {y:GBlk} {w6 wx w11 wz:World} (h:BlkI w B G1 j f w6 wx) (hy:f.bk9[j]?=some y) (hyb:y.label.length<=9223372036854775807) (hC:CdI w B G1 j f y wx G2 c3 w11) (hZ:InI w B G2 y.code.length y w11 wz):BlkI w B G1 (j+1) f w6 wz:=by
 have hG1:=h.row.lt;have hlo:=hC.lo;have hxz:Chg (fun n=>n=G1) wx wz:=hC.chg.trans hZ.chg (fun n hn e=>by omega);have hs6:=h.chg.size;refine⟨h.chg.trans hxz (fun _ _ e=>e),?_⟩;refine hC.row.imp (hZ.chg.block G1 hC.row.lt (by omega)) fun i y' cs hx hE=>?_
 by_cases e:i=j
 ·subst e;simp only[if_true] at hE;subst hE;rw[hy] at hx;injection hx with hx
  subst hx;refine⟨_,rfl,rfl,?_⟩;rw[if_pos (Nat.lt_succ_self i)];exact fun W B' hs=>⟨⟨hZ.row.code hC.c1 hC.c2 (hs.mono (by omega)),hyb⟩,(hZ.row.codeT hC.c1 hC.c2 (hs.mono (by omega))).lower (by omega)⟩
 ·simp only[e,if_false] at hE;obtain⟨vc,h1,h2,h6⟩:=hE.step hxz (fun n h1 _=>by omega);refine⟨vc,h1,h2,?_⟩
  by_cases e2:i<j
  ·rw[if_pos e2] at h6;rw[if_pos (by omega)];exact h6
  ·rw[if_neg e2] at h6;rw[if_neg (by omega)];exact h6
theorem OutI.step {w:World} {B PB RB G c k G1 c2:Nat} {p:GProg} {f:GFun} {wr w6 wx:World} {vP:Value} (h:OutI w B PB RB G c k p wr) (hP:PB<G/\RB<G/\w.heap.size<=G) (hf:p[k]?=some f) (hn:f.name.length<=9223372036854775807) (hps:∀ s∈f.params,s.length<=9223372036854775807)
  (hv:vP.oneCell'=true) (hM:MidI w B G k p f wr vP G1 c2 w6) (hJ:BlkI w B G1 f.bk9.length f w6 wx):OutI w B PB RB G c (k+1) p wx:=by
 have hG:=h.row.lt;have hlo:=hM.lo;have hxz:Chg (fun n=>n=G) wr wx:=hM.chg.trans hJ.chg (fun n hn e=>by omega);refine⟨Chg.after h.grown hxz (fun n hn e=>by omega),hxz.at_ h.pb (by omega),hxz.at_ h.rb (by omega),?_⟩;refine hM.row.imp (hJ.chg.block G hM.row.lt (by omega)) fun i f' cs hx hE=>?_
 by_cases e:i=k
 ·subst e;simp only[if_true] at hE;subst hE;rw[hf] at hx;injection hx with hx
  subst hx;refine⟨_,_,rfl,hv,rfl,?_⟩;rw[if_pos (Nat.lt_succ_self i)];intro W B' hs;exact⟨⟨Zgz (hJ.chg.owns hM.par (fun g hg e=>by have:=hM.pne g hg;omega)) hps (hs.mono (by omega)),hJ.row.bk9 hM.c1 hM.c2 (hs.mono (by omega)),hn⟩,(hJ.row.blksT hM.c1 hM.c2 (hs.mono (by omega))).lower (by omega)⟩
 ·simp only[e,if_false] at hE;obtain⟨vp,vb,h1,h2,h3,h6⟩:=hE.step hxz (fun n h1 _=>by omega);refine⟨vp,vb,h1,h2,h3,?_⟩
  by_cases e2:i<k
  ·rw[if_pos e2] at h6;rw[if_pos (by omega)];exact h6
  ·rw[if_neg e2] at h6;rw[if_neg (by omega)];exact h6
theorem Yhr (p:GProg) (vp:Value) (w:World) (B:Nat) (hB:B<=w.heap.size) (h:ProgAt w B vp p) (hok:CpOk p):
  Calls Tryz.prog 60 #[.agg #[vp]] w fun e w'=>∃ v',e=.returned (.agg #[v'])/\v'.oneCell'=true/\(∀ W B',SupI w.heap.size w' W B'->ProgAt W B' v' p/\ProgT w.heap.size W p v')/\w.grownBy w' none:=by
 obtain⟨A,c,rfl,hm,_,_,hA⟩:=h.open_;obtain⟨W0,hW0⟩:∃ W0:World,W0=(w.alloc (.cells #[.slice A p.length c] 47)).alloc (.cells #[.slice none 0 0] 47):=⟨_,rfl⟩
 have hg0:w.grownBy W0 none:=by rw[hW0];exact Zd (Lc _ _ _) _
 have hs0:W0.heap.size=w.heap.size+2:=by rw[hW0];simp
 have hpb:W0.heap[w.heap.size]?=some (.cells #[.slice A p.length c] 47 (0,0)):=by rw[hW0];exact Zc (La _ _) _
 have hrb:W0.heap[w.heap.size+1]?=some (.cells #[.slice none 0 0] 47 (0,0)):=by
  rw[hW0];have:=La (w.alloc (.cells #[.slice A p.length c] 47)) (.cells #[.slice none 0 0] 47);simpa using this
 have hcl:=Zhj (hA.below funR.keeps (Zk hg0) hB) (Nat.le_trans hB hg0.size) (by have:=hok.len;omega);have c0:W0.cell? ⟨w.heap.size,0,none⟩=some (.slice A p.length c):=(Za hpb).1 0;obtain⟨PB,hPB⟩:∃ PB,PB=w.heap.size:=⟨_,rfl⟩
 obtain⟨RB,hRB⟩:∃ RB,RB=w.heap.size+1:=⟨_,rfl⟩
 have hPR:PB<RB/\RB<W0.heap.size/\w.heap.size<=PB:=by omega
 rw[<-hPB] at hpb c0;rw[<-hRB] at hrb;have Hpb:=hid hpb;have Hrb:=hid hrb;have Hg0:=hid hg0;have HA:=hid hA;clear h hA hpb hrb hg0;go_enter Tryz.func60,Tryz.ntmps60;go_upto_region 1 with (fail)
 rw[<-hW0,<-hRB,<-hPB];clear hW0 hRB hPB hs0;go_upto_region 2 with ((go_at_call 94;go_must (refine hcl.mono ?_;rintro e w1 ⟨hb1,A1,c1,rfl,hl1,hm1,hor⟩;have hb:=(hb1.block PB (by omega)).trans Hpb.out;have x1:w1.cell? ⟨PB,0,none⟩=some (.slice A p.length c):=(Za hb).1 0;have x2:w1.frozen? ⟨PB,0,none⟩=false:=(Za hb).2 0;have Hb:=hid hb;have Hb1:=hid hb1;have Hor:=hid hor;clear hb hb1 hor)))
 clear x1 x2 hcl c0
 rcases Hor.out with ⟨_,e,_⟩|⟨G0,cur,rfl,hG0,hh,hR⟩
 ·exact absurd e hok.ne
 obtain⟨w2,hw2⟩:∃ w2:World,w2=w1.setCell ⟨PB,0,none⟩ (.slice (some ⟨G0,0,none⟩) p.length c1):=⟨_,rfl⟩
 have hg1:w.grownBy w1 none:=Zb Hg0.out (Zj Hb1.out);have hgs:w1.grownBy w2 (some PB):=by rw[hw2];exact Zn (Lb _ _) rfl _
 have hO:OutI w B PB RB G0 c1 0 p w2:=by
  refine⟨by rw[hw2];exact Zi hg1 hPR.2.2 _,by rw[hw2];exact Zs Hb.out 0 _,(hgs.block RB (by have:=Hb1.out.size;omega) (by intro e;injection e with e;omega)).trans ((Hb1.out.block RB hPR.2.1).trans Hrb.out),?_⟩;refine (RowI.of_fun hh hR).imp (hgs.block G0 (Ze hh) (by intro e;injection e with e;omega)) fun k x cs hx hE=>?_
  obtain⟨vp,vb,h1,h2,h3,h4⟩:=hE;rw[if_neg (Nat.not_lt_zero k)] at h4;exact⟨vp,vb,h1,h2,h3,by rw[if_neg (Nat.not_lt_zero k)];exact h4.keep fun q hq=>((Zk hg1).cell (Lm hq hB)).symm⟩
 rw[<-hw2];have HO:=hid hO;have hGP:PB<G0/\RB<G0:=by omega
 clear hw2 hgs hO hh hR Hor Hb hg1 hG0;have x0:w2.cell? ⟨PB,0,none⟩=some (.slice (some ⟨G0,0,none⟩) p.length c1):=(Za HO.out.pb).1 0;go_wp2_with fail;go_loopw [15] (fun s15 wr=>∃ k:Nat,s15=.int .i64 k/\k<=p.length/\Hid (OutI w B PB RB G0 c1 k p wr)) (fun s15 _=>p.length-(intOf s15).toNat)
 case atStart=>exact⟨0,rfl,Ln _,HO⟩
 case round=>
  obtain⟨k,rfl,hkl,hI⟩:=hrel;clear HO x0;have x0:wr.cell? ⟨PB,0,none⟩=some (.slice (some ⟨G0,0,none⟩) p.length c1):=(Za hI.out.pb).1 0
  by_cases hl:k<p.length
  ·obtain⟨f,hf⟩:∃ f,p[k]?=some f:=⟨_,Ld hl⟩
   obtain⟨cs,_,hE,hcell⟩:=hI.out.row.at_ hf;obtain⟨vq,vb,rfl,hq1,hb1,hfn⟩:=hE;rw[if_neg (Nat.lt_irrefl k)] at hfn;obtain⟨A2,d2,rfl,-,-,-,hPS⟩:=hfn.params.open_;obtain⟨A3,d3,rfl,-,-,-,hBS⟩:=hfn.bk9.open_;have y1:wr.cell? ⟨G0,k*3+1,none⟩=some (.slice A2 f.params.length d2):=(hcell 1 _ rfl).1;have y2:wr.cell? ⟨G0,k*3+2,none⟩=some (.slice A3 f.bk9.length d3):=(hcell 2 _ rfl).1;have hGl:=hI.out.row.lt;have hwl:=hI.out.grown.size;have hcp:∀ W':World,wr.grownBy W' none->Calls Tryz.prog 95 #[.slice A2 f.params.length d2] W' _:=fun W' hg=>Ux (hPS.below strR.keeps (Zk (Zb hI.out.grown hg)) hB) (by have:=hok.params f (Ll hf);omega)
   have hcb:∀ W':World,wr.grownBy W' none->Calls Tryz.prog 96 #[.slice A3 f.bk9.length d3] W' _:=fun W' hg=>Zfl (hBS.below blkR.keeps (Zk (Zb hI.out.grown hg)) hB) (by have:=hg.size;omega) (by have:=(hok.bk9 f (Ll hf)).2;omega)
   have Hat:=hid (show ∀ W':World,wr.grownBy W' none->W'.cell? ⟨G0,k*3+1,none⟩=some (.slice A2 f.params.length d2)/\W'.cell? ⟨G0,k*3+2,none⟩=some (.slice A3 f.bk9.length d3)/\W'.frozen? ⟨G0,k*3+1,none⟩=false/\W'.frozen? ⟨G0,k*3+2,none⟩=false from fun W' hg=>by
    have hb:=hg.block G0 hGl (by simp)
    exact⟨(Lj hb).trans y1,(Lj hb).trans y2,(World.frozen?_of_block hb).trans (hcell 1 _ rfl).2,(World.frozen?_of_block hb).trans (hcell 2 _ rfl).2⟩)
   have Hcp:=hid hcp;have Hcb:=hid hcb;have Hf:=hid hf;have Hfn:=hid hfn;clear hcp hcb hf hfn hPS hBS hcell;go_upto_region 6 with (fail)
   go_cut [4] (fun s4 wx=>s4=.pointer (some ⟨G0,k*3,none⟩)/\∃ (vP:Value) (G1 c2:Nat),Hid (MidI w B G0 k p f wr vP G1 c2 wx))
   case first=>
    go_region_law (first
                   |(go_simp;go_at_call 95;go_must (refine (Hcp.out _ (by first|exact Lb _ _|exact Y4 (Lb _ _))).mono ?_;rintro e w3 ⟨v3,rfl,ho3,hb3⟩;obtain⟨A4,c4,rfl,-,-,-,-⟩:=Zz ho3;have hg3:wr.grownBy w3 none:=Zb (by first|exact Lb _ _|exact Y4 (Lb _ _)) (Zj hb3);have z2:=(Hat.out w3 hg3).2.1;have Ho3:=hid ho3;have Hg3:=hid hg3;clear ho3 hb3 hg3))
                   |(go_simp;go_at_call 96;go_must (refine (Hcb.out _ Hg3.out).mono ?_;rintro e w4 ⟨hb4,A5,c5,rfl,hl5,hm5,hor5⟩;have hg4:wr.grownBy w4 none:=Zb Hg3.out (Zj hb4);have u1:=(Hat.out w4 hg4).1;have u2:=(Hat.out w4 hg4).2.1;have f1:=(Hat.out w4 hg4).2.2.1;have f2:=(Hat.out w4 hg4).2.2.2;have Hor5:=hid hor5;have Hg4:=hid hg4;have Hb4:=hid hb4;clear hor5 hg4 hb4)))
    all_goals (go_wp2_with fail;go_meet)
    all_goals
     rcases Hor5.out with ⟨_,e,_⟩|⟨G1,cur,hA5,hG1,hh,hR⟩
     ·exact absurd e (hok.bk9 f (Ll Hf.out)).1
     ·exact⟨rfl,_,G1,c5,hid (MidI.make hI.out.grown hB hI.out.row Hf.out Hg3.out Ho3.out Hg4.out Hb4.out hl5 hm5 hA5 hG1 hh hR)⟩
   case rest=>
    obtain⟨rfl,vP,G1,c2,hM⟩:=hcut;clear x0 y1 y2 Hat Hcp Hcb
    rename World=>w6
    obtain⟨cs6,_,hE6,hcell6⟩:=hM.out.row.at_ Hf.out;simp only[if_true] at hE6;subst hE6;have v2:w6.cell? ⟨G0,k*3+2,none⟩=some (.slice (some ⟨G1,0,none⟩) f.bk9.length c2):=(hcell6 2 _ rfl).1;have hlo:=hM.out.lo;have hG06:=hM.out.row.lt;have HB0:=hid (show BlkI w B G1 0 f w6 w6 from ⟨.refl _ _,hM.out.blk⟩);have hg6:w.grownBy w6 none:=Chg.after hI.out.grown hM.out.chg (fun n hn e=>by omega);have Hg6:=hid hg6;have hbl6:=(hok.bk9 f (Ll Hf.out)).2;clear hcell6 hg6;go_wp2_with fail;go_loopw [43] (fun s43 wx=>∃ j:Nat,s43=.int .i64 j/\j<=f.bk9.length/\Hid (BlkI w B G1 j f w6 wx)) (fun s43 _=>f.bk9.length-(intOf s43).toNat)
    case atStart=>exact⟨0,rfl,Ln _,HB0⟩
    case round=>
     rename World=>wx
     obtain⟨j,rfl,hjl,hJ⟩:=hrel;have v2x:wx.cell? ⟨G0,k*3+2,none⟩=some (.slice (some ⟨G1,0,none⟩) f.bk9.length c2):=(Lj (hJ.out.chg.block G0 hG06 (by omega))).trans v2;clear HB0 v2;have hgx:w.grownBy wx none:=Chg.after Hg6.out hJ.out.chg (fun n hn e=>by omega);have Hgx:=hid hgx;have hsx:=hgx.size;clear hgx
     by_cases hl2:j<f.bk9.length
     ·obtain⟨y,hy⟩:∃ y,f.bk9[j]?=some y:=⟨_,Ld hl2⟩
      obtain⟨cs,_,hE,hcell⟩:=hJ.out.row.at_ hy;obtain⟨vc,rfl,-,hyb⟩:=hE;rw[if_neg (Nat.lt_irrefl j)] at hyb;obtain⟨A7,d7,rfl,-,-,-,hCS⟩:=hyb.code.open_;have u1:wx.cell? ⟨G1,j*2+1,none⟩=some (.slice A7 y.code.length d7):=(hcell 1 _ rfl).1;have hG1x:=hJ.out.row.lt;have hym:=hok.code f (Ll Hf.out) y (Ll hy);have hcc:=Zfm (hCS.below insR.keeps (Zk Hgx.out) hB) (Nat.le_trans hB hsx) (by have:=hym.2;omega)
      have Hat:=hid (show ∀ W':World,wx.grownBy W' none->W'.cell? ⟨G1,j*2+1,none⟩=some (.slice A7 y.code.length d7)/\W'.frozen? ⟨G1,j*2+1,none⟩=false from fun W' hg=>by
       have hb:=hg.block G1 hG1x (by simp)
       exact⟨(Lj hb).trans u1,(World.frozen?_of_block hb).trans (hcell 1 _ rfl).2⟩)
      have Hy:=hid hy;have Hyb:=hid hyb;clear hcell hCS hy hyb;go_upto_region 12 with ((go_at_call 97;go_must (refine hcc.mono ?_;rintro e w3 ⟨hb3,A8,c8,rfl,hl8,hm8,hor8⟩;have z1:=(Hat.out w3 (Zj hb3)).1;have z2:=(Hat.out w3 (Zj hb3)).2;have Hb3:=hid hb3;have Hor8:=hid hor8;clear hb3 hor8)))
      clear u1 hcc Hat z1 z2
      rcases Hor8.out with ⟨_,e,_⟩|⟨G2,cur,rfl,hG2,hh,hR⟩
      ·exact absurd e hym.1
      have hC:=CdI.make (Zk Hgx.out) hB hJ.out.row Hy.out Hb3.out hl8 hm8 hG2 hh hR;obtain⟨w11,hw11⟩:∃ w11:World,w11=w3.setCell ⟨G1,j*2+1,none⟩ (.slice (some ⟨G2,0,none⟩) y.code.length c8):=⟨_,rfl⟩
      rw[<-hw11] at hC ⊢;have HC:=hid hC;clear hw11 hh hR hC Hor8;obtain⟨cs,_,hE,hcell⟩:=HC.out.row.at_ Hy.out;simp only[if_true] at hE;subst hE;have v4:w11.cell? ⟨G1,j*2+1,none⟩=some (.slice (some ⟨G2,0,none⟩) y.code.length c8):=(hcell 1 _ rfl).1;have hG111:=HC.out.row.lt;have hg11:w.grownBy w11 none:=Chg.after Hgx.out HC.out.chg (fun n hn e=>by omega);have Hg11:=hid hg11;have hs11:=hg11.size;have HI0:=hid (show InI w B G2 0 y w11 w11 from ⟨.refl _ _,HC.out.ins⟩);clear hcell hg11;go_wp2_with fail;go_loopw [65] (fun s65 wz=>∃ i:Nat,s65=.int .i64 i/\i<=y.code.length/\Hid (InI w B G2 i y w11 wz)) (fun s65 _=>y.code.length-(intOf s65).toNat)
      case atStart=>exact⟨0,rfl,Ln _,HI0⟩
      case round=>
       rename World=>wz
       obtain⟨i,rfl,hil,hZ⟩:=hrel;have v4z:wz.cell? ⟨G1,j*2+1,none⟩=some (.slice (some ⟨G2,0,none⟩) y.code.length c8):=(Lj (hZ.out.chg.block G1 hG111 (by omega))).trans v4;clear HI0
       by_cases hl3:i<y.code.length
       ·obtain⟨x,hx⟩:∃ x,y.code[i]?=some x:=⟨_,Ld hl3⟩
        obtain⟨cs,_,hE,hcell⟩:=hZ.out.row.at_ hx;obtain⟨va,vl,rfl,hva,hvl,hix⟩:=hE;rw[if_neg (Nat.lt_irrefl i)] at hix;have hgz:w.grownBy wz none:=Chg.after Hg11.out hZ.out.chg (fun n hn e=>by omega);have hG2z:=hZ.out.row.lt;obtain⟨A9,d9,rfl,-,-,-,-⟩:=hix.args.open_;obtain⟨A10,d10,rfl,-,-,-,-⟩:=hix.lb9.open_;have hcp:=fun (W':World) (hg:wz.grownBy W' none)=>Yht x _ _ W' B (hix.below (Zk (Zb hgz hg)) hB) (by have:=hg.size;have:=hgz.size;omega)
        have q0:wz.cell? ⟨G2,i*8,none⟩=some (.int .u8 x.op):=(hcell 0 _ rfl).1;have q1:wz.cell? ⟨G2,i*8+1,none⟩=some (.string ⟨x.dst.toArray⟩):=(hcell 1 _ rfl).1;have q2:wz.cell? ⟨G2,i*8+2,none⟩=some (.string ⟨x.a.toArray⟩):=(hcell 2 _ rfl).1;have q3:wz.cell? ⟨G2,i*8+3,none⟩=some (.string ⟨x.b.toArray⟩):=(hcell 3 _ rfl).1;have q4:wz.cell? ⟨G2,i*8+4,none⟩=some (.int .i64 x.n):=(hcell 4 _ rfl).1;have q5:wz.cell? ⟨G2,i*8+5,none⟩=some (.string ⟨x.fn.toArray⟩):=(hcell 5 _ rfl).1;have q6:wz.cell? ⟨G2,i*8+6,none⟩=some (.slice A9 x.args.length d9):=(hcell 6 _ rfl).1;have q7:wz.cell? ⟨G2,i*8+7,none⟩=some (.slice A10 x.lb9.length d10):=(hcell 7 _ rfl).1
        have Hat:=hid (show ∀ W':World,wz.grownBy W' none->(∀ o,W'.cell? ⟨G2,o,none⟩=wz.cell? ⟨G2,o,none⟩)/\(∀ o,W'.frozen? ⟨G2,o,none⟩=false)/\W'.cell? ⟨G1,j*2+1,none⟩=some (.slice (some ⟨G2,0,none⟩) y.code.length c8) from fun W' hg=>by
         have hb:=hg.block G2 hG2z (by simp)
         have hb1:=hg.block G1 (by omega) (by simp)
         obtain⟨cur,h1,_⟩:=hZ.out.row
         exact⟨fun o=>Lj hb,fun o=>(World.frozen?_of_block hb).trans ((Za h1).2 o),(Lj hb1).trans v4z⟩)
        have Hcp:=hid hcp;have Hx:=hid hx;clear hcp hx hcell hgz hix;go_upto_region 15 with (fail)
        go_region_law (first
                       |(go_simp;go_at_call 68;go_must (refine (Hcp.out _ (by first|exact Lb _ _|exact Y4 (Lb _ _))).mono ?_;rintro e w4 ⟨A11,d11,A12,d12,rfl,hs4,hg4,ho4⟩;have hg5:wz.grownBy w4 none:=Zb (by first|exact Lb _ _|exact Y4 (Lb _ _)) hg4;have e1:=(Hat.out w4 hg5).1;have e2:=(Hat.out w4 hg5).2.1;have e3:=(Hat.out w4 hg5).2.2;have Hs4:=hid hs4;have Hg5:=hid hg5;have Ho4:=hid (Zcy ho4 (show wz.heap.size<=_ by first|exact Lf _|simp));clear hs4 hg4 hg5 ho4)))
        all_goals go_wp2_with fail
        all_goals go_roundw
        all_goals first
         |exact⟨i+1,by go_num,by omega,hid (hZ.out.step Hx.out Hg5.out rfl rfl hG2z Hs4.out Ho4.out)⟩
         |(simp[intOf];omega)
       ·have hi:i=y.code.length:=by omega
        subst hi;have HB2:=hid (hJ.out.step Hy.out Hyb.out.label HC.out hZ.out);go_wp2_with fail;go_roundw
        case rel=>exact⟨j+1,by go_num,by omega,HB2⟩
        case measure=>simp[intOf];omega
     ·have hj:j=f.bk9.length:=by omega
      subst hj;have hvp:vP.oneCell'=true:=by obtain⟨_,_,e,_⟩:=Zz hM.out.par;rw[e];rfl
      have HO2:=hid (hI.out.step ⟨hGP.1,hGP.2,by omega⟩ Hf.out Hfn.out.name (Zgy Hfn.out.params) hvp hM.out hJ.out);go_wp2_with fail;go_roundw
      case rel=>exact⟨k+1,by go_num,by omega,HO2⟩
      case measure=>simp[intOf];omega
  ·have hk:k=p.length:=by omega
   subst hk;have r0:wr.cell? ⟨RB,0,none⟩=some (.slice none 0 0):=(Za hI.out.rb).1 0;have r1:wr.frozen? ⟨RB,0,none⟩=false:=(Za hI.out.rb).2 0;have hset:=Zs hI.out.rb 0 (.slice (some ⟨G0,0,none⟩) p.length c1);have Hset:=hid hset;clear hset;go_wp2;have s0:(wr.setCell ⟨RB,0,none⟩ (.slice (some ⟨G0,0,none⟩) p.length c1)).cell? ⟨RB,0,none⟩=some (.slice (some ⟨G0,0,none⟩) p.length c1):=(Za Hset.out).1 0;refine bodyPost_ret (v:=.agg #[.slice (some ⟨G0,0,none⟩) p.length c1]) (by simp[results,Tryz.results60,go_sem,s0]) rfl ⟨_,rfl,rfl,fun W B' hs=>?_,Zi hI.out.grown (show w.heap.size<=RB by omega) _⟩;have hs4:=(hs.mono (show w.heap.size<=G0 by omega)).chg (Chg.set wr (Q:=fun n=>n=RB) (p:=⟨RB,0,none⟩) rfl (.slice (some ⟨G0,0,none⟩) p.length c1)) (fun n h1 h2 e=>by omega);exact⟨hI.out.row.funcs hl1 hm1 hs4,(hI.out.row.progT hl1 hm1 hs4).lower (by omega)⟩
theorem Zdv (p:GProg) (vp:Value) (w:World) (B:Nat) (hB:B<=w.heap.size) (h:ProgAt w B vp p) (hok:CpOk p):
  Calls Tryz.prog 60 #[.agg #[vp]] w fun e w'=>∃ v',e=.returned (.agg #[v'])/\v'.oneCell'=true/\(∀ W B',SupI w.heap.size w' W B'->ProgAt W B' v' p)/\w.grownBy w' none:=
 (Yhr p vp w B hB h hok).mono fun e w' h=>by
  obtain⟨v',h1,h2,h3,h4⟩:=h;exact⟨v',h1,h2,fun W B' hs=>(h3 W B' hs).1,h4⟩

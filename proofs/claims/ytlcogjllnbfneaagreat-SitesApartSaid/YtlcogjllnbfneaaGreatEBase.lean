/- The data of a pointer program, in plain Lean. No condition. -/
import Derived.WalkKit
import Derived.WalkSpells
import Derived.WalkLawsBesides
import Derived.Lib.Hide
import Derived.Maps.OwnOps
import Derived.RangeFuncRecord
import Derived.Test.YtlcogjllnbfneaaGreatProg
import Derived.Shelf.Abstract
set_option maxHeartbeats 1000000
set_option linter.all false
namespace Go.Proofs.YtlcogjllnbfneaaGreat
open Lib(hid)
theorem La (w : World) (o : Obj) : (w.alloc o).heap[w.heap.size]? = some o := World.alloc_heap_new w o
theorem Lb (w : World) (r : Option Nat) : w.grownBy w r := World.grownBy.refl w r
theorem Lc (w : World) (o : Obj) (r : Option Nat) : w.grownBy (w.alloc o) r := World.grownBy_alloc w o r
theorem Ld {α : Type} {l : List α} {i : Nat} (h : i < l.length) : l[i]? = some l[i] := List.getElem?_eq_getElem h
theorem Le {α : Type} {i : Nat} {a : α} {l : List α} (h : l[i]? = some a) : ∃ h : i < l.length, l[i] = a := List.getElem?_eq_some_iff.1 h
theorem Lf (n : Nat) : n ≤ n := Nat.le_refl n
theorem Lg {α : Type} (l : List α) (i : Nat) (a : α) : l.toArray.setIfInBounds i a = (l.set i a).toArray := List.setIfInBounds_toArray l i a
theorem Lh {α : Type} {x : α} {l : List α} {a : α} : (x :: l).set 0 a = a :: l := rfl
theorem Li {α : Type} {x : α} {l : List α} {i : Nat} {a : α} : (x :: l).set (i + 1) a = x :: l.set i a := rfl
theorem Lj {w w' : World} {a : Addr} (h : w'.heap[a.block]? = w.heap[a.block]?) : w'.cell? a = w.cell? a := World.cell?_of_block h
theorem Ll {α : Type} {l : List α} {i : Nat} {a : α} (h : l[i]? = some a) : a ∈ l := List.mem_of_getElem? h
theorem Lm {n m k : Nat} (h : n < m) (h' : m ≤ k) : n < k := Nat.lt_of_lt_of_le h h'
theorem Ln (n : Nat) : 0 ≤ n := Nat.zero_le n
abbrev Str:=List UInt8
structure GIns where
 op:Nat
 dst:Str
 a:Str
 b:Str
 n:Int
 fn:Str
 args:List Str
 lb9:List Str
 deriving DecidableEq
structure GBlk where
 label:Str
 code:List GIns
 deriving DecidableEq
structure GFun where
 name:Str
 params:List Str
 bk9:List GBlk
 deriving DecidableEq
abbrev GProg:=List GFun
def Y2 {α β:Type} (g:Nat->α->Option β):Nat->List α->Option β
 |_,[]=>none
 |k,x::l=>match g k x with
  |some r=>some r
  |none=>Y2 g (k+1) l
def Zq {α β:Type} (l:List α) (g:Nat->α->Option β):Option β:=Y2 g 0 l
theorem Qx {α β:Type} (g:Nat->α->Option β):∀ (l:List α) (k:Nat),(∀ j x,l[j]?=some x->g (k+j) x=none)->Y2 g k l=none
 |[],_,_=>rfl
 |x::l,k,h=>by
  have h0:=h 0 x rfl;simp only[Nat.add_zero] at h0;simp only[Y2,h0];exact Qx g l (k+1) fun j y hj=>by
   have:=h (j+1) y (by simpa using hj)
   rwa [show k+(j+1)=k+1+j by omega] at this
theorem Qy {α β:Type} (g:Nat->α->Option β):∀ (l:List α) (k n:Nat) (x:α) (r:β),(∀ j,j<n->∀ y,l[j]?=some y->g (k+j) y=none)->l[n]?=some x->g (k+n) x=some r->Y2 g k l=some r
 |[],_,_,_,_,_,h,_=>by simp at h
 |y::l,k,0,x,r,_,h,hr=>by
  simp only[List.getElem?_cons_zero,Option.some.injEq] at h;subst h;simp only[Nat.add_zero] at hr;simp only[Y2,hr]
 |y::l,k,n+1,x,r,hb,h,hr=>by
  have h0:=hb 0 (by omega) y rfl;simp only[Nat.add_zero] at h0;simp only[Y2,h0];refine Qy g l (k+1) n x r (fun j hj z hz=>?_) (by simpa using h) (by rwa [show k+1+n=k+(n+1) by omega]);have:=hb (j+1) (by omega) z (by simpa using hz)
  rwa [show k+(j+1)=k+1+j by omega] at this
theorem Zx {α β:Type} {l:List α} {g:Nat->α->Option β} (h:∀ j,j<l.length->∀ x,l[j]?=some x->g j x=none):Zq l g=none:=
 Qx g l 0 fun j x hx=>by
  rw[Nat.zero_add];exact h j (Le hx).1 x hx
theorem Zo {α β:Type} {l:List α} {g:Nat->α->Option β} {n:Nat} {x:α} {r:β} (hb:∀ j,j<n->∀ y,l[j]?=some y->g j y=none) (h:l[n]?=some x) (hr:g n x=some r):Zq l g=some r:=
 Qy g l 0 n x r (fun j hj y hy=>by rw[Nat.zero_add];exact hb j hj y hy) h (by rwa [Nat.zero_add])
theorem Zw {α:Type} {k:Nat} {l:List α} {P:Nat->α->Prop} {x:α} (hx:l[k]?=some x) (h:∀ j,j<k->∀ y,l[j]?=some y->P j y) (hk:P k x):∀ j,j<k+1->∀ y,l[j]?=some y->P j y:=by
 intro j hj y hy
 by_cases e:j=k
 ·subst e;rw[hx] at hy
  cases hy
  exact hk
 ·exact h j (by omega) y hy
theorem Z9 {α:Type} {k:Nat} {l:List α} {P:Nat->α->Prop} (hk:¬ k<l.length) (h:∀ j,j<k->∀ y,l[j]?=some y->P j y):∀ j,j<l.length->∀ y,l[j]?=some y->P j y:=
 fun j hj y hy=>h j (by omega) y hy
theorem Z2 {α:Type} {l:List α} {P:Nat->α->Prop}:∀ j,j<0->∀ y,l[j]?=some y->P j y:=fun _ hj=>absurd hj (Nat.not_lt_zero _)
section
open Go.RowKit
abbrev Rdr (α:Type):=World->Nat->Nat->Nat->α->Prop
def SlAt {α:Type} (R:Rdr α) (sz:Nat) (w:World) (B:Nat) (v:Value) (l:List α):Prop:=
 ∃ A c,v=.slice A l.length c/\l.length<=c/\c<=maxLen/\∀ k x,l[k]?=some x->∃ b off,A=some ⟨b,off,none⟩/\b<B/\R w B b (off+k*sz) x
structure Qs {α:Type} (R:Rdr α):Prop where
 keep:∀ {w w':World} {B b o:Nat} {x:α},(∀ p:Addr,p.block<B->w'.cell? p=w.cell? p)->b<B->R w B b o x->R w' B b o x
 more:∀ {w:World} {B B' b o:Nat} {x:α},B<=B'->R w B b o x->R w B' b o x
section
variable {α:Type} {R:Rdr α} {sz:Nat} {w w':World} {B B':Nat} {v:Value} {l:List α}
theorem SlAt.keep (hR:Qs R) (h:SlAt R sz w B v l) (hk:∀ p:Addr,p.block<B->w'.cell? p=w.cell? p):SlAt R sz w' B v l:=by
 obtain⟨A,c,e,h1,h2,h3⟩:=h;refine⟨A,c,e,h1,h2,fun k x hx=>?_⟩;obtain⟨b,off,e,hb,hr⟩:=h3 k x hx;exact⟨b,off,e,hb,hR.keep hk hb hr⟩
theorem SlAt.more (hR:Qs R) (h:SlAt R sz w B v l) (hB:B<=B'):SlAt R sz w B' v l:=by
 obtain⟨A,c,e,h1,h2,h3⟩:=h;refine⟨A,c,e,h1,h2,fun k x hx=>?_⟩;obtain⟨b,off,e,hb,hr⟩:=h3 k x hx;exact⟨b,off,e,by omega,hR.more hB hr⟩
theorem SlAt.below (hR:Qs R) (h:SlAt R sz w B v l) (hb:Below B' w w') (hB:B<=B'):SlAt R sz w' B v l:=
 h.keep hR fun _ hp=>hb.cell (Lm hp hB)
theorem SlAt.open_ (h:SlAt R sz w B v l):∃ A c,v=.slice A l.length c/\l.length<=9223372036854775807/\l.length<=c/\c<=9223372036854775807/\SlAt R sz w B (.slice A l.length c) l:=by
 obtain⟨A,c,rfl,h1,h2,h3⟩:=h;have h2':=h2;unfold maxLen at h2';exact⟨A,c,rfl,by omega,h1,by omega,A,c,rfl,h1,h2,h3⟩
theorem SlAt.at_ {A:Option Addr} {n c k:Nat} (h:SlAt R sz w B (.slice A n c) l) (hk:k<l.length):
  ∃ x b off,l[k]?=some x/\A=some ⟨b,off,none⟩/\b<B/\R w B b (off+k*sz) x:=by
 obtain⟨A',c',e,_,_,h3⟩:=h;injection e with e1 e2 e3
 subst e1;obtain⟨b,off,e,hb,hr⟩:=h3 k l[k] (Ld hk);exact⟨l[k],b,off,Ld hk,e,hb,hr⟩
theorem SlAt.at1 {A:Option Addr} {n c k:Nat} (h:SlAt R 1 w B (.slice A n c) l) (hk:k<l.length):
  ∃ x b off,l[k]?=some x/\A=some ⟨b,off,none⟩/\b<B/\R w B b (off+k) x:=by
 have:=h.at_ hk
 rwa [Nat.mul_one] at this
theorem SlAt.take {A:Option Addr} {n c:Nat} (h:SlAt R sz w B (.slice A n c) l) (k:Nat) (hk:k<=l.length):SlAt R sz w B (.slice A k c) (l.take k):=by
 obtain⟨A',c',e,h1,h2,h3⟩:=h;injection e with e1 e2 e3
 subst e1;subst e3;have hl:(l.take k).length=k:=by rw[List.length_take];omega
 refine⟨A,c,by rw[hl],by rw[hl];omega,h2,fun j x hx=>?_⟩;have hj:j<k:=by
  have:=(Le hx).1;omega
 rw[List.getElem?_take_of_lt hj] at hx;exact h3 j x hx
theorem SlAt.nil_ (R:Rdr α) (sz:Nat) (w:World) (B:Nat):SlAt R sz w B (.slice none 0 0) []:=
 ⟨none,0,rfl,Lf _,by unfold maxLen;omega,fun k x hx=>by simp at hx⟩
theorem SlAt.keeps (hR:Qs R):Qs (fun w B b o l=>∃ v,w.cell? ⟨b,o,none⟩=some v/\SlAt R sz w B v l) where
 keep:=fun hk hb ⟨v,hc,h⟩=>⟨v,(hk _ hb).trans hc,h.keep hR hk⟩
 more:=fun hB ⟨v,hc,h⟩=>⟨v,hc,h.more hR hB⟩
end
def strR:Rdr Str:=fun w _ b o s=>w.cell? ⟨b,o,none⟩=some (.string ⟨s.toArray⟩)/\s.length<=9223372036854775807
def intR:Rdr Int:=fun w _ b o n=>w.cell? ⟨b,o,none⟩=some (.int .i64 n)/\-9223372036854775808<=n/\n<=9223372036854775807
def natR:Rdr Nat:=fun w _ b o n=>w.cell? ⟨b,o,none⟩=some (.int .i64 n)/\n<=9223372036854775807
def boolR:Rdr Bool:=fun w _ b o n=>w.cell? ⟨b,o,none⟩=some (.bool n)
theorem strR.keeps:Qs strR:=⟨fun hk hb h=>⟨(hk _ hb).trans h.1,h.2⟩,fun _ h=>h⟩
theorem intR.keeps:Qs intR:=⟨fun hk hb h=>⟨(hk _ hb).trans h.1,h.2⟩,fun _ h=>h⟩
theorem natR.keeps:Qs natR:=⟨fun hk hb h=>⟨(hk _ hb).trans h.1,h.2⟩,fun _ h=>h⟩
theorem boolR.keeps:Qs boolR:=⟨fun hk hb h=>(hk _ hb).trans h,fun _ h=>h⟩
abbrev StrsAt:=SlAt strR 1
abbrev NatsAt:=SlAt natR 1
abbrev BoolsAt:=SlAt boolR 1
def rowR:Rdr (List Nat):=fun w B b o l=>∃ v,w.cell? ⟨b,o,none⟩=some v/\NatsAt w B v l
theorem rowR.keeps:Qs rowR:=SlAt.keeps natR.keeps
abbrev GraphAt:=SlAt rowR 1
structure InsAt (w:World) (B:Nat) (x:GIns) (va vl:Value):Prop where
 args:StrsAt w B va x.args
 argsLe:x.args.length<=8796093021952
 labelsLe:x.lb9.length<=8796093021952
 lb9:StrsAt w B vl x.lb9
 op:x.op<256
 n1: -9223372036854775808<=x.n
 n2:x.n<=9223372036854775807
 dst:x.dst.length<=9223372036854775807
 a:x.a.length<=9223372036854775807
 b:x.b.length<=9223372036854775807
 fn:x.fn.length<=9223372036854775807
def insR:Rdr GIns:=fun w B b o x=>∃ va vl,InsAt w B x va vl/\
 w.cell? ⟨b,o,none⟩=some (.int .u8 x.op)/\w.cell? ⟨b,o+1,none⟩=some (.string ⟨x.dst.toArray⟩)/\w.cell? ⟨b,o+2,none⟩=some (.string ⟨x.a.toArray⟩)/\w.cell? ⟨b,o+3,none⟩=some (.string ⟨x.b.toArray⟩)/\
 w.cell? ⟨b,o+4,none⟩=some (.int .i64 x.n)/\w.cell? ⟨b,o+5,none⟩=some (.string ⟨x.fn.toArray⟩)/\w.cell? ⟨b,o+6,none⟩=some va/\w.cell? ⟨b,o+7,none⟩=some vl
theorem InsAt.keep {w w':World} {B:Nat} {x:GIns} {va vl:Value} (h:InsAt w B x va vl) (hk:∀ p:Addr,p.block<B->w'.cell? p=w.cell? p):InsAt w' B x va vl:=
 { h with args:=h.args.keep strR.keeps hk,lb9:=h.lb9.keep strR.keeps hk }
theorem InsAt.more {w:World} {B B':Nat} {x:GIns} {va vl:Value} (h:InsAt w B x va vl) (hB:B<=B'):InsAt w B' x va vl:=
 { h with args:=h.args.more strR.keeps hB,lb9:=h.lb9.more strR.keeps hB }
theorem InsAt.below {w w':World} {B B':Nat} {x:GIns} {va vl:Value} (h:InsAt w B x va vl) (hb:Below B' w w') (hB:B<=B'):InsAt w' B x va vl:=
 h.keep fun _ hp=>hb.cell (Lm hp hB)
theorem insR.keeps:Qs insR where
 keep:=fun hk hb ⟨va,vl,h,c0,c1,c2,c3,c4,c5,c6,c7⟩=>⟨va,vl,h.keep hk,(hk _ hb).trans c0,(hk _ hb).trans c1,(hk _ hb).trans c2,(hk _ hb).trans c3,(hk _ hb).trans c4,(hk _ hb).trans c5,(hk _ hb).trans c6,(hk _ hb).trans c7⟩
 more:=fun hB ⟨va,vl,h,r⟩=>⟨va,vl,h.more hB,r⟩
abbrev CodeAt:=SlAt insR 8
structure BlkAt (w:World) (B:Nat) (x:GBlk) (vc:Value):Prop where
 code:CodeAt w B vc x.code
 label:x.label.length<=9223372036854775807
def blkR:Rdr GBlk:=fun w B b o x=>∃ vc,BlkAt w B x vc/\w.cell? ⟨b,o,none⟩=some (.string ⟨x.label.toArray⟩)/\w.cell? ⟨b,o+1,none⟩=some vc
theorem BlkAt.keep {w w':World} {B:Nat} {x:GBlk} {vc:Value} (h:BlkAt w B x vc) (hk:∀ p:Addr,p.block<B->w'.cell? p=w.cell? p):BlkAt w' B x vc:=⟨h.code.keep insR.keeps hk,h.label⟩
theorem BlkAt.more {w:World} {B B':Nat} {x:GBlk} {vc:Value} (h:BlkAt w B x vc) (hB:B<=B'):BlkAt w B' x vc:=⟨h.code.more insR.keeps hB,h.label⟩
theorem BlkAt.below {w w':World} {B B':Nat} {x:GBlk} {vc:Value} (h:BlkAt w B x vc) (hb:Below B' w w') (hB:B<=B'):BlkAt w' B x vc:=
 h.keep fun _ hp=>hb.cell (Lm hp hB)
theorem blkR.keeps:Qs blkR where
 keep:=fun hk hb ⟨vc,h,c0,c1⟩=>⟨vc,h.keep hk,(hk _ hb).trans c0,(hk _ hb).trans c1⟩
 more:=fun hB ⟨vc,h,r⟩=>⟨vc,h.more hB,r⟩
abbrev BlocksAt:=SlAt blkR 2
structure FunAt (w:World) (B:Nat) (x:GFun) (vp vb:Value):Prop where
 params:StrsAt w B vp x.params
 bk9:BlocksAt w B vb x.bk9
 name:x.name.length<=9223372036854775807
def funR:Rdr GFun:=fun w B b o x=>∃ vp vb,FunAt w B x vp vb/\w.cell? ⟨b,o,none⟩=some (.string ⟨x.name.toArray⟩)/\w.cell? ⟨b,o+1,none⟩=some vp/\w.cell? ⟨b,o+2,none⟩=some vb
theorem FunAt.keep {w w':World} {B:Nat} {x:GFun} {vp vb:Value} (h:FunAt w B x vp vb) (hk:∀ p:Addr,p.block<B->w'.cell? p=w.cell? p):FunAt w' B x vp vb:=⟨h.params.keep strR.keeps hk,h.bk9.keep blkR.keeps hk,h.name⟩
theorem FunAt.more {w:World} {B B':Nat} {x:GFun} {vp vb:Value} (h:FunAt w B x vp vb) (hB:B<=B'):FunAt w B' x vp vb:=⟨h.params.more strR.keeps hB,h.bk9.more blkR.keeps hB,h.name⟩
theorem FunAt.below {w w':World} {B B':Nat} {x:GFun} {vp vb:Value} (h:FunAt w B x vp vb) (hb:Below B' w w') (hB:B<=B'):FunAt w' B x vp vb:=
 h.keep fun _ hp=>hb.cell (Lm hp hB)
theorem funR.keeps:Qs funR where
 keep:=fun hk hb ⟨vp,vb,h,c0,c1,c2⟩=>⟨vp,vb,h.keep hk,(hk _ hb).trans c0,(hk _ hb).trans c1,(hk _ hb).trans c2⟩
 more:=fun hB ⟨vp,vb,h,r⟩=>⟨vp,vb,h.more hB,r⟩
abbrev ProgAt:=SlAt funR 3
theorem Za {w:World} {g:Nat} {cs:Array Value} {t:TypeId} (h:w.heap[g]?=some (.cells cs t (0,0))):(∀ i,w.cell? ⟨g,i,none⟩=cs[i]?)/\(∀ i,w.frozen? ⟨g,i,none⟩=false):=
 ⟨fun i=>by simp[World.cell?,h],fun i=>by simp[World.frozen?,h]⟩
theorem Zk {w w':World} (h:w.grownBy w' none):Below w.heap.size w w':=⟨h.os,h.tape,h.output,h.size,fun k hk=>h.block k hk (by simp)⟩
theorem Zj {w w':World} (h:Below w.heap.size w w'):w.grownBy w' none:=⟨h.os,h.tape,h.output,h.size,fun k hk _=>h.block k hk⟩
theorem Zb {a b c:World} {row:Option Nat} (h:a.grownBy b row) (k:b.grownBy c row):a.grownBy c row:=
 ⟨k.os.trans h.os,k.tape.trans h.tape,k.output.trans h.output,Nat.le_trans h.size k.size,fun i hi hne=>(k.block i (Lm hi h.size) hne).trans (h.block i hi hne)⟩
theorem Qr {a c:World} (h:a.grownBy c none) (row:Option Nat):a.grownBy c row:=⟨h.os,h.tape,h.output,h.size,fun i hi _=>h.block i hi (by simp)⟩
theorem Z1 {a w w':World} {B:Nat} {row:Option Nat} (h:Below B a w) (hg:w.grownBy w' row) (hB:B<=w.heap.size) (hr:∀ r,row=some r->B<=r):Below B a w':=
 h.trans ⟨hg.os,hg.tape,hg.output,hg.size,fun k hk=>hg.block k (by omega) (fun e=>by have:=hr k e.symm;omega)⟩
end
section
open Go.RowKit
theorem Zi {w w':World} {row:Option Nat} (h:w.grownBy w' row) {p:Addr} (hp:w.heap.size<=p.block) (u:Value):w.grownBy (w'.setCell p u) row:=
 ⟨h.os,h.tape,h.output,by simpa [World.setCell] using h.size,fun k hk hne=>(Below.heap_setCell w' p u k (by omega)).trans (h.block k hk hne)⟩
theorem Zn {w w':World} {r:Nat} (h:w.grownBy w' (some r)) {p:Addr} (hp:p.block=r) (u:Value):w.grownBy (w'.setCell p u) (some r):=
 ⟨h.os,h.tape,h.output,by simpa [World.setCell] using h.size,fun k hk hne=>(Below.heap_setCell w' p u k (fun e=>hne (by rw[e,hp]))).trans (h.block k hk hne)⟩
theorem Zd {w w':World} {row:Option Nat} (h:w.grownBy w' row) (o:Obj):w.grownBy (w'.alloc o) row:=Zb h (Lc w' o row)
theorem Zf {w w':World} {row:Option Nat} (h:w.grownBy w' row):w.grownBy w'.drew row:=⟨h.os,h.tape,h.output,h.size,h.block⟩
theorem Zg {w w':World} {row:Option Nat} (h:w.grownBy w' row) (n:Nat):w.grownBy (w'.drewN n) row:=⟨h.os,h.tape,h.output,h.size,h.block⟩
theorem Zt {w w':World} {o:Obj} {row:Option Nat} (h:(w.alloc o).grownBy w' row):w.grownBy w' row:=Zb (Lc w o row) h
theorem Y3 {w W W':World} {row row':Option Nat} (h:w.grownBy W row) (hg:W.grownBy W' row') (hr:∀ r,row'=some r->w.heap.size<=r):w.grownBy W' row:=
 ⟨hg.os.trans h.os,hg.tape.trans h.tape,hg.output.trans h.output,Nat.le_trans h.size hg.size,fun k hk hne=>(hg.block k (Lm hk h.size) (fun e=>by have:=hr k e.symm;omega)).trans (h.block k hk hne)⟩
theorem cur {w wr:World} {B b o:Nat} {v:Value} (hb:Below B w wr) (hlt:b<B) (h:w.cell? ⟨b,o,none⟩=some v):wr.cell? ⟨b,o,none⟩=some v:=(hb.cell (p:=⟨b,o,none⟩) hlt).trans h
theorem Yh {w:World} {B b o:Nat} {x:GFun} (h:funR w B b o x):∃ A1 d1 A2 d2,FunAt w B x (.slice A1 x.params.length d1) (.slice A2 x.bk9.length d2)/\
  x.params.length<=9223372036854775807/\x.bk9.length<=9223372036854775807/\
  w.cell? ⟨b,o,none⟩=some (.string ⟨x.name.toArray⟩)/\w.cell? ⟨b,o+1,none⟩=some (.slice A1 x.params.length d1)/\w.cell? ⟨b,o+2,none⟩=some (.slice A2 x.bk9.length d2):=by
 obtain⟨vp,vb,hf,e0,e1,e2⟩:=h;obtain⟨A1,d1,rfl,m1,_,_,_⟩:=hf.params.open_;obtain⟨A2,d2,rfl,m2,_,_,_⟩:=hf.bk9.open_;exact⟨A1,d1,A2,d2,hf,m1,m2,e0,e1,e2⟩
theorem Yg {w:World} {B b o:Nat} {x:GBlk} (h:blkR w B b o x):∃ A1 d1,BlkAt w B x (.slice A1 x.code.length d1)/\x.code.length<=9223372036854775807/\
  w.cell? ⟨b,o,none⟩=some (.string ⟨x.label.toArray⟩)/\w.cell? ⟨b,o+1,none⟩=some (.slice A1 x.code.length d1):=by
 obtain⟨vc,hf,e0,e1⟩:=h;obtain⟨A1,d1,rfl,m1,_,_,_⟩:=hf.code.open_;exact⟨A1,d1,hf,m1,e0,e1⟩
theorem Yw {w:World} {B b o:Nat} {x:GIns} (h:insR w B b o x):∃ A1 d1 A2 d2,InsAt w B x (.slice A1 x.args.length d1) (.slice A2 x.lb9.length d2)/\
  x.args.length<=9223372036854775807/\x.lb9.length<=9223372036854775807/\
  w.cell? ⟨b,o,none⟩=some (.int .u8 x.op)/\w.cell? ⟨b,o+1,none⟩=some (.string ⟨x.dst.toArray⟩)/\w.cell? ⟨b,o+2,none⟩=some (.string ⟨x.a.toArray⟩)/\w.cell? ⟨b,o+3,none⟩=some (.string ⟨x.b.toArray⟩)/\
  w.cell? ⟨b,o+4,none⟩=some (.int .i64 x.n)/\w.cell? ⟨b,o+5,none⟩=some (.string ⟨x.fn.toArray⟩)/\w.cell? ⟨b,o+6,none⟩=some (.slice A1 x.args.length d1)/\w.cell? ⟨b,o+7,none⟩=some (.slice A2 x.lb9.length d2):=by
 obtain⟨va,vl,hf,e0,e1,e2,e3,e4,e5,e6,e7⟩:=h;obtain⟨A1,d1,rfl,m1,_,_,_⟩:=hf.args.open_;obtain⟨A2,d2,rfl,m2,_,_,_⟩:=hf.lb9.open_;exact⟨A1,d1,A2,d2,hf,m1,m2,e0,e1,e2,e3,e4,e5,e6,e7⟩
end
section
open Go.RowKit
section
variable {κ β:Type}
def Z6 [BEq κ]:List (κ×β)->κ->Option β
 |[],_=>none
 |(k',v)::l,k=>if k == k' then some v else Z6 l k
def Yz [BEq κ]:List (κ×β)->κ->β->List (κ×β)
 |[],k,v=>[(k,v)]
 |(k',v')::l,k,v=>if k == k' then (k',v)::l else (k',v')::Yz l k v
def Va [BEq κ]:List (κ×β)->κ->Nat->Option (Nat×β)
 |[],_,_=>none
 |(k',v)::l,k,i=>if k == k' then some (i,v) else Va l k (i+1)
theorem Qq [BEq κ]:∀ (l:List (κ×β)) (k:κ) (i:Nat),(Va l k i).map (·.2)=Z6 l k
 |[],_,_=>rfl
 |(k',v)::l,k,i=>by
  unfold Va Z6
  split
  ·rfl
  ·exact Qq l k (i+1)
theorem Xj [BEq κ] [LawfulBEq κ] (l:List (κ×β)) (k:κ) (v:β) (k2:κ):Z6 (Yz l k v) k2=if k2 == k then some v else Z6 l k2:=by
 induction l with
 |nil=>simp[Yz,Z6]
 |cons x l ih=>
  obtain⟨k',v'⟩:=x;unfold Yz
  by_cases h:k == k'
  ·have e:=eq_of_beq h;subst e;simp only[beq_self_eq_true,if_true,Z6]
   split<;>rfl
  ·simp only[h,if_false,Bool.false_eq_true,Z6]
   by_cases h2:k2 == k'
   ·have e:=eq_of_beq h2;subst e;have h3:(k2 == k)=false:=by
     cases h4:k2 == k with
     |false=>rfl
     |true=>have:=eq_of_beq h4;subst this;simp at h
    simp[h3]
   ·simp only[h2,if_false,Bool.false_eq_true];exact ih
theorem Zdh [BEq κ] (l:List (κ×β)) (k:κ) (v:β):(Yz l k v).length=match Va l k 0 with|some _=>l.length|none=>l.length+1:=by
 have key:∀ (l:List (κ×β)) (i:Nat),(Yz l k v).length=match Va l k i with|some _=>l.length|none=>l.length+1:=by
  intro l
  induction l with
  |nil=>intro i;rfl
  |cons x l ih=>
   intro i;obtain⟨k',v'⟩:=x;unfold Yz Va
   split
   ·rfl
   ·simp only[List.length_cons,ih (i+1)]
    split<;>rfl
 exact key l 0
def Qu (ek:κ->Value) (ev:β->Value):Nat->List (κ×β)->List MapEntry
 |_,[]=>[]
 |n,(k,v)::l=>{ key:=ek k,val:=ev v,born:=n }::Qu ek ev (n+1) l
def Z7 (ek:κ->Value) (ev:β->Value) (l:List (κ×β)):Obj:=.map (Qu ek ev 0 l).toArray l.length
structure K4 [BEq κ] (P:Program) (kt:TypeId) (ek:κ->Value):Prop where
 run:∃ d,P.underlying kt=some d/\(∀ a,MapKept.IsKey d (ek a))/\∀ a b,Instr.sameNow d (ek a) (ek b)=some (a == b)
 bits:∀ a,Instr.sameBits 10000 (ek a) (ek a)=true
variable {P:Program} {kt:TypeId} {ek:κ->Value} {ev:β->Value} {w:World}
theorem Qh [BEq κ] {d:TypeDesc} (hs:∀ a b,Instr.sameNow d (ek a) (ek b)=some (a == b)) (k:κ):∀ (l:List (κ×β)) (n i:Nat),
  Instr.findNow d (ek k) (Qu ek ev n l) i=some ((Va l k i).map fun x=>(x.1,ev x.2))
 |[],_,_=>rfl
 |(k',v)::l,n,i=>by
  unfold Qu Instr.findNow Va;simp only[hs]
  cases h:k == k' with
  |true=>simp
  |false=>simp only[Bool.false_eq_true,if_false];exact Qh hs k l (n+1) (i+1)
theorem Zdq (n:Nat) (l:List (κ×β)) (k:κ) (v:β):Qu ek ev n (l++[(k,v)])=Qu ek ev n l++[{ key:=ek k,val:=ev v,born:=n+l.length }]:=by
 induction l generalizing n with
 |nil=>rfl
 |cons x l ih=>obtain⟨k',v'⟩:=x;simp[Qu,ih];omega
theorem J7 [BEq κ] {l:List (κ×β)} {k:κ} {i:Nat} (h:Va l k i=none) (v:β):Yz l k v=l++[(k,v)]:=by
 induction l generalizing i with
 |nil=>rfl
 |cons x l ih=>
  obtain⟨k',v'⟩:=x;unfold Va at h;unfold Yz
  split at h
  ·cases h
  ·rename_i hne
   simp only[hne,if_false,Bool.false_eq_true,List.cons_append,ih h]
theorem Zlt [BEq κ] [LawfulBEq κ] {l:List (κ×β)} {k:κ} {b:Nat} {i j:Nat} {v0:β} (h:Va l k i=some (j,v0)) (v:β):
  i<=j/\j-i<l.length/\Qu ek ev b (Yz l k v)=(Qu ek ev b l).modify (j-i) (fun e=>{ e with key:=ek k,val:=ev v })/\((Qu ek ev b l)[j-i]?).map (·.key)=some (ek k):=by
 induction l generalizing i b with
 |nil=>cases h
 |cons x l ih=>
  obtain⟨k',v'⟩:=x;unfold Va at h;unfold Yz
  split at h
  ·rename_i he
   injection h with h
   injection h with h1 h2
   subst h1;have e:=eq_of_beq he;subst e;simp[Qu]
  ·rename_i hne
   obtain⟨h1,h2,h3,h4⟩:=ih (b:=b+1) h;obtain⟨m,hm⟩:∃ m,j-i=m+1:=⟨j-i-1,by omega⟩
   have hm':j-(i+1)=m:=by omega
   rw[hm'] at h3 h4 h2;refine⟨by omega,by simp;omega,?_,?_⟩
   ·simp only[hne,if_false,Bool.false_eq_true,Qu,hm,List.modify_succ_cons,h3]
   ·simp only[Qu,hm,List.getElem?_cons_succ,h4]
theorem V5 [BEq κ] [LawfulBEq κ] (K:K4 P kt ek) {mt et:TypeId} (hm:P.underlying mt=some (.map kt et)) {r:Nat} {l:List (κ×β)} (hb:w.heap[r]?=some (Z7 ek ev l)) (k:κ) (v:β):
  (Instr.mapUpdate mt (.map (some r)) (ek k) (ev v)).run P w=.ok () (w.putObj r (Z7 ek ev (Yz l k v))):=by
 obtain⟨⟨d,hd,hik,hs⟩,hbits⟩:=K;have hf:=Qh (ev:=ev) hs k l 0 0;have hck:=MapKept.run_checkKey (w:=w) hd (hik k) false 9999;have hfk:=MapKept.run_findKey (w:=w) hd hf;unfold Z7 at hb ⊢
 cases hc:Va l k 0 with
 |none=>
  rw[hc] at hfk;simp only[Instr.mapUpdate,Sem.run_bind,run_underlying hm,Result.andThen,MapKept.run_getObj_map hb,hck,hfk,Option.map_none,MapKept.run_setObj_map _ hb];rw[J7 hc,Zdq];simp[World.putObj]
 |some x=>
  obtain⟨j,v0⟩:=x;rw[hc] at hfk;obtain⟨_,h2,h3,h4⟩:=Zlt (ek:=ek) (ev:=ev) (b:=0) hc v;simp only[Nat.sub_zero] at h2 h3 h4;have hkey:((((Qu ek ev 0 l).toArray[j]?).map (·.key)).getD (ek k))=ek k:=by
   rw[List.getElem?_toArray,h4];rfl
  have hst:(Instr.keyThatStays (ek k) (ek k)).run P w=.ok (ek k) w:=by
   simp[Instr.keyThatStays,hbits k]
  simp only[Instr.mapUpdate,Sem.run_bind,run_underlying hm,Result.andThen,MapKept.run_getObj_map hb,hck,hfk,Option.map_some,hkey,hst,MapKept.run_setObj_map _ hb];have hlen:(Yz l k v).length=l.length:=by rw[Zdh,hc]
  rw[h3,hlen];simp[World.putObj]
theorem V4 [BEq κ] (K:K4 P kt ek) {mt et:TypeId} (hm:P.underlying mt=some (.map kt et)) {r:Nat} {l:List (κ×β)} (hb:w.heap[r]?=some (Z7 ek ev l)) (k:κ) {z:Value} (hz:(zeroValue et).run P w=.ok z w):
  (Instr.lookup mt (.map (some r)) (ek k) false).run P w=.ok (match Z6 l k with|some v=>ev v|none=>z) w:=by
 obtain⟨⟨d,hd,hik,hs⟩,_⟩:=K;have hf:=Qh (ev:=ev) hs k l 0 0;have hck:=MapKept.run_checkKey (w:=w) hd (hik k) (Qu ek ev 0 l).isEmpty 9999;simp only[Nat.reduceAdd] at hck;have hfk:=MapKept.run_findKey (w:=w) hd hf;unfold Z7 at hb;have hg:=Qq l k 0
 cases hc:Va l k 0 with
 |none=>
  rw[hc] at hfk hg;rw[<-hg];simp[Instr.lookup,run_underlying hm,Result.andThen,MapKept.run_getObj_map hb,hck,hfk,hz]
 |some x=>
  rw[hc] at hfk hg;rw[<-hg];simp[Instr.lookup,run_underlying hm,Result.andThen,MapKept.run_getObj_map hb,hck,hfk]
theorem Vl [BEq κ] (K:K4 P kt ek) {mt et:TypeId} (hm:P.underlying mt=some (.map kt et)) {r:Nat} {l:List (κ×β)} (hb:w.heap[r]?=some (Z7 ek ev l)) (k:κ) {z:Value} (hz:(zeroValue et).run P w=.ok z w):
  (Instr.lookup mt (.map (some r)) (ek k) true).run P w=.ok (.tuple #[match Z6 l k with|some v=>ev v|none=>z,.bool (Z6 l k).isSome]) w:=by
 obtain⟨⟨d,hd,hik,hs⟩,_⟩:=K;have hf:=Qh (ev:=ev) hs k l 0 0;have hck:=MapKept.run_checkKey (w:=w) hd (hik k) (Qu ek ev 0 l).isEmpty 9999;simp only[Nat.reduceAdd] at hck;have hfk:=MapKept.run_findKey (w:=w) hd hf;unfold Z7 at hb;have hg:=Qq l k 0
 cases hc:Va l k 0 with
 |none=>
  rw[hc] at hfk hg;rw[<-hg];simp[Instr.lookup,run_underlying hm,Result.andThen,MapKept.run_getObj_map hb,hck,hfk,hz]
 |some x=>
  rw[hc] at hfk hg;rw[<-hg];simp[Instr.lookup,run_underlying hm,Result.andThen,MapKept.run_getObj_map hb,hck,hfk]
theorem Zao [BEq κ] [LawfulBEq κ] {ops:Array Oper} {rest:List Oper} {o:Oper} {a:Act} {Q:Exit->Act->World->Prop} (hg:o.guard=none) (m x v:Operand) (mt:TypeId)
  (hop:o.op=Op.mapUpdate mt m x v\/o.op=Op.insert mt m x v) (K:K4 P kt ek) {et:TypeId} (hm:P.underlying mt=some (.map kt et)) (r:Nat) (l:List (κ×β))
  (hev:a.eval m=.map (some r)) (hb:w.heap[r]?=some (Z7 ek ev l)) (k:κ) (b:β) (hx:a.eval x=ek k) (hv:a.eval v=ev b)
  (hK:wpList P ops Q rest (a.put o.dst undef) (w.putObj r (Z7 ek ev (Yz l k b)))):wpList P ops Q (o::rest) a w:=by
 refine wpList_plain hg fun K' hK'=>?_
 have hrun:=V5 K hm hb k b;unfold Oper.wp
 rcases hop with hop|hop<;>simp[execOp,hop,hev,hx,hv,hrun,Result.andThen]<;>exact hK' _ _ hK
theorem Zic [BEq κ] {ops:Array Oper} {rest:List Oper} {o:Oper} {a:Act} {Q:Exit->Act->World->Prop} (hg:o.guard=none) (m x:Operand) (mt:TypeId)
  (hop:o.op=Op.lookup mt m x false) (K:K4 P kt ek) {et:TypeId} (hm:P.underlying mt=some (.map kt et)) (r:Nat) (l:List (κ×β))
  (hev:a.eval m=.map (some r)) (hb:w.heap[r]?=some (Z7 ek ev l)) (k:κ) (hx:a.eval x=ek k) (z:Value) (hz:(zeroValue et).run P w=.ok z w)
  (hK:wpList P ops Q rest (a.put o.dst (match Z6 l k with|some v=>ev v|none=>z)) w):wpList P ops Q (o::rest) a w:=by
 refine wpList_plain hg fun K' hK'=>?_
 have hrun:=V4 K hm hb k hz;unfold Oper.wp;simp[execOp,hop,hev,hx,hrun,Result.andThen];exact hK' _ _ hK
end
def encS (s:Str):Value:=.string ⟨s.toArray⟩
def Z4 (n:Nat):Value:=.int .i64 n
def encB (b:Bool):Value:=.bool b
theorem Zcm (a b:Str):((⟨a.toArray⟩:ByteArray) == ⟨b.toArray⟩)=(a == b):=by
 show (a.toArray == b.toArray)=_;rw[Bool.eq_iff_iff];simp
theorem Zbr {P:Program} {kt:TypeId} (h:P.underlying kt=some .string):K4 P kt encS:=by
 refine⟨⟨_,h,fun a=>by simp[MapKept.IsKey,encS],fun a b=>?_⟩,fun a=>?_⟩
 ·simp only[Instr.sameNow,encS,Option.some.injEq];exact Zcm a b
 ·simp only[Instr.sameBits,encS];rw[Zcm];simp
def encUI (n:Int):Value:=.int .u8 n
theorem Zgf {P:Program} {kt:TypeId} (h:P.underlying kt=some (.int .u8)):K4 P kt encUI:=by
 refine⟨⟨_,h,fun a=>by simp[MapKept.IsKey,encUI],fun a b=>?_⟩,fun a=>by simp[Instr.sameBits,encUI]⟩;simp only[Instr.sameNow,encUI,if_true]
def idV (v:Value):Value:=v
theorem Zjb (w:World) (o o':Obj):(w.alloc o).putObj w.heap.size o'=w.alloc o':=by
 have e:∀ o:Obj,(w.alloc o).heap=w.heap.push o:=fun _=>rfl
 have e2:∀ (h:Array Obj) (x y:Obj),(h.push x).setIfInBounds h.size y=h.push y:=fun h x y=>by
  apply Array.ext_getElem?
  intro i;rw[Array.getElem?_setIfInBounds,Array.getElem?_push,Array.getElem?_push]
  by_cases h1:i=h.size
  ·subst h1;simp
  ·simp[h1,Ne.symm h1]
 show ({ (w.alloc o) with heap:=(w.alloc o).heap.setIfInBounds w.heap.size o' }:World)=_;rw[e,e2];rfl
theorem Vt {κ β:Type} [BEq κ] [LawfulBEq κ] {P:Program} {kt:TypeId} {ek:κ->Value} {ev:β->Value} {w:World} {ops:Array Oper} {rest:List Oper} {o:Oper} {a:Act} {Q:Exit->Act->World->Prop} (hg:o.guard=none) (m x v:Operand) (mt:TypeId)
  (hop:o.op=Op.insert mt m x v) (K:K4 P kt ek) {et:TypeId} (hm:P.underlying mt=some (.map kt et)) (l:List (κ×β)) (r:Nat)
  (hev:a.eval m=.map (some r)) (hr:r=w.heap.size) (k:κ) (b:β) (hx:a.eval x=ek k) (hv:a.eval v=ev b)
  (hK:wpList P ops Q rest (a.put o.dst undef) (w.alloc (Z7 ek ev (Yz l k b)))):wpList P ops Q (o::rest) a (w.alloc (Z7 ek ev l)):=by
 subst hr;refine Zao hg m x v mt (.inr hop) K hm _ l hev (La w _) k b hx hv ?_;rw[Zjb];exact hK
structure Turned (r:Nat) (w w':World):Prop where
 os:w'.os=w.os
 tape:w'.tape=w.tape
 output:w'.output=w.output
 size:w'.heap.size=w.heap.size
 block:∀ k,k≠r->w'.heap[k]?=w.heap[k]?
theorem Turned.putObj (w:World) (r:Nat) (o:Obj):Turned r w (w.putObj r o):=
 ⟨rfl,rfl,rfl,by simp[World.putObj],fun k hk=>by simp[World.putObj,Array.getElem?_setIfInBounds,Ne.symm hk]⟩
theorem Turned.below {r B:Nat} {a w w':World} (ht:Turned r w w') (h:Below B a w) (hr:B<=r):Below B a w':=
 h.trans ⟨ht.os,ht.tape,ht.output,Nat.le_of_eq ht.size.symm,fun k hk=>ht.block k (by omega)⟩
theorem Turned.cells {r:Nat} {w w':World} (ht:Turned r w w'):(∀ b o,b≠r->w'.cell? ⟨b,o,none⟩=w.cell? ⟨b,o,none⟩)/\(∀ b o,b≠r->w'.frozen? ⟨b,o,none⟩=w.frozen? ⟨b,o,none⟩):=
 ⟨fun b o h=>Lj (ht.block b h),fun b o h=>World.frozen?_of_block (ht.block b h)⟩
theorem Xt {w:World} {r:Nat} {o0:Obj} (h:w.heap[r]?=some o0) (o:Obj):(w.putObj r o).heap[r]?=some o:=by
 have hlt:r<w.heap.size:=(Array.getElem?_eq_some_iff.1 h).1;simp[World.putObj,hlt]
end
section
open Go.RowKit
def Zef (l:List Str):List (Str×Bool):=l.foldl (fun m s=>Yz m s true) []
def Ye (l:List Str):Obj:=Z7 encS encB (Zef l)
theorem Zpj (l:List Str) (s:Str):Zef (l++[s])=Yz (Zef l) s true:=by simp[Zef,List.foldl_append]
theorem Zwa (l:List Str) (s:Str):Z6 (Zef l) s=if l.contains s then some true else none:=by
 have key:∀ (r:List Str) (m:List (Str×Bool)),Z6 (r.foldl (fun m s=>Yz m s true) m) s=if r.contains s then some true else Z6 m s:=by
  intro r
  induction r with
  |nil=>intro m;simp
  |cons x r ih=>
   intro m;simp only[List.foldl_cons,ih,Xj,List.contains_cons]
   by_cases h1:r.contains s=true
   ·simp only[h1,if_true,Bool.or_true]
   ·have h1':r.contains s=false:=by simpa using h1
    simp only[h1',if_false,Bool.false_eq_true,Bool.or_false]
 rw[Zef,key];rfl
theorem J3 {w:World} {r:Nat} {l:List Str} (hb:w.heap[r]?=some (Ye l)) (s:Str):
  (Instr.lookup 213 (.map (some r)) (.string ⟨s.toArray⟩) false).run Tryz.prog w=.ok (.bool (l.contains s)) w:=by
 have h:=V4 (P:=Tryz.prog) (Zbr Tryz.underlying9) Tryz.underlying213 hb s (z:=.bool false) (by kernel_rfl);rw[Zwa] at h;simp only[encS] at h;rw[h]
 cases l.contains s<;>rfl
theorem Kh:∀ w:World,(Instr.makeMap 213 none).run Tryz.prog w=.ok (.map (some w.heap.size)) (w.alloc (Ye [])):= @run_makeMap Tryz.prog 213
theorem V6 {w:World} {ops:Array Oper} {rest:List Oper} {o:Oper} {a:Act} {Q:Exit->Act->World->Prop} (hg:o.guard=none) (m x v:Operand)
  (hop:o.op=Op.mapUpdate 213 m x v\/o.op=Op.insert 213 m x v) (r:Nat) (l:List Str)
  (hev:a.eval m=.map (some r)) (hb:w.heap[r]?=some (Ye l)) (s:Str) (hx:a.eval x=.string ⟨s.toArray⟩) (hv:a.eval v=.bool true)
  (hK:∀ w1,Turned r w w1->w1.heap[r]?=some (Ye (l++[s]))->wpList Tryz.prog ops Q rest (a.put o.dst undef) w1):wpList Tryz.prog ops Q (o::rest) a w:=by
 refine Zao hg m x v _ hop (Zbr Tryz.underlying9) Tryz.underlying213 r (Zef l) hev hb s true hx hv ?_;refine hK _ (Turned.putObj w r _) ?_;rw[Ye,Zpj];exact Xt hb _
theorem Turned.grown {r:Nat} {a w w':World} {row:Option Nat} (ht:Turned r w w') (h:a.grownBy w row) (hr:a.heap.size<=r):a.grownBy w' row:=
 ⟨ht.os.trans h.os,ht.tape.trans h.tape,ht.output.trans h.output,by rw[ht.size];exact h.size,fun k hk hne=>(ht.block k (by omega)).trans (h.block k hk hne)⟩
theorem Turned.grownRow {r:Nat} {a w w':World} (ht:Turned r w w') (h:a.grownBy w (some r)):a.grownBy w' (some r):=
 ⟨ht.os.trans h.os,ht.tape.trans h.tape,ht.output.trans h.output,by rw[ht.size];exact h.size,fun k hk hne=>(ht.block k (fun e=>hne (by rw[e]))).trans (h.block k hk hne)⟩
theorem Zc {w:World} {r:Nat} {x:Obj} (h:w.heap[r]?=some x) (o:Obj):(w.alloc o).heap[r]?=some x:=
 (Below.heap_alloc w o r (Array.getElem?_eq_some_iff.1 h).1).trans h
theorem Ze {w:World} {r:Nat} {x:Obj} (h:w.heap[r]?=some x):r<w.heap.size:=(Array.getElem?_eq_some_iff.1 h).1
end
section
open Go.RowKit
def idxOf {α:Type} (p:α->Bool) (l:List α):Int:=match l.findIdx? p with|some i=>i|none=> -1
theorem Qi {α:Type} {p:α->Bool} {l:List α} {k:Nat} {x:α} (h:∀ j,j<k->∀ y,l[j]?=some y->p y=false) (hx:l[k]?=some x) (hp:p x=true):idxOf p l=k:=by
 obtain⟨hk,e⟩:=Le hx;have:l.findIdx? p=some k:=by
  rw[List.findIdx?_eq_some_iff_getElem];refine⟨hk,by rw[e];exact hp,fun j hj=>?_⟩;have:=h j hj l[j] (Ld (by omega));simp[this]
 simp[idxOf,this]
theorem Ug {α:Type} {p:α->Bool} {l:List α} (h:∀ j,j<l.length->∀ y,l[j]?=some y->p y=false):idxOf p l= -1:=by
 have:l.findIdx? p=none:=by
  rw[List.findIdx?_eq_none_iff];intro x hx;obtain⟨j,hj,e⟩:=List.getElem_of_mem hx;exact h j hj x (by rw[List.getElem?_eq_getElem hj,e])
 simp[idxOf,this]
theorem Zex {α:Type} (p:α->Bool) (l:List α):decide (0<=idxOf p l)=l.any p:=by
 unfold idxOf
 cases h:l.findIdx? p with
 |none=>
  rw[List.findIdx?_eq_none_iff] at h;have:l.any p=false:=by
   rw[List.any_eq_false];intro x hx;simp[h x hx]
  rw[this];rfl
 |some i=>
  rw[List.findIdx?_eq_some_iff_getElem] at h;obtain⟨hk,hp,_⟩:=h;have:l.any p=true:=List.any_eq_true.2 ⟨l[i],List.getElem_mem hk,hp⟩;rw[this];exact decide_eq_true (Int.natCast_nonneg i)
theorem Zak (v:Value) (l:List Str) (g:Nat) (lb:Array Value) (w:World) (B:Nat) (p:Str->Bool) (hB:B<=w.heap.size)
  (h:SlAt strR 1 w B v l) (eg:∀ args w,(callFunc g args).run Tryz.prog w=.ok (.enter g args) w)
  (hp:∀ (x:Str)  (W:World),Below w.heap.size w W->x.length<=9223372036854775807->Calls Tryz.prog g (#[.string ⟨x.toArray⟩]++lb) W fun e w'=>e=.returned (.bool (p x))/\Below w.heap.size w w'):
  Calls Tryz.prog 188 #[v,.func (.func g) #[] lb] w fun e w'=>e=.returned (.int .i64 (idxOf p l))/\Below w.heap.size w w':=by
 obtain⟨A,c,rfl,hm,hlc,hcm,hA⟩:=h.open_;clear h;go_enter Tryz.func188,Tryz.ntmps188;go_wp2;go_loopw [8] (fun s8 wr=>∃ k:Nat,k<=l.length/\s8=.int .i64 k/\Hid (Below w.heap.size w wr)/\Hid (∀ j,j<k->∀ y,l[j]?=some y->p y=false)) (fun s8 _=>l.length-(intOf s8).toNat)
 case atStart=>exact⟨0,Ln _,rfl,Below.refl _ _,Z2⟩
 case round=>
  obtain⟨k,hkl,rfl,hb,hP⟩:=hrel
  by_cases hlt:k<l.length
  ·obtain⟨x,b,off,hx,rfl,hbB,hc,hsl⟩:=(hA.below strR.keeps hb.out hB).at1 hlt;have hcall:=hp x  wr hb.out hsl;have Hx:=hid hx;clear hx hp hA
   cases hq:p x with
   |true=>
    rw[hq] at hcall;go_wp2_with (go_at_fn g;refine hcall.mono ?_;rintro e w' ⟨rfl,hb'⟩);go_ret;exact⟨by rw[Qi hP.out Hx.out hq];rfl,hb'⟩
   |false=>
    rw[hq] at hcall;go_wp2_with (go_at_fn g;refine hcall.mono ?_;rintro e w' ⟨rfl,hb'⟩);go_roundw
    case rel=>exact⟨k+1,by omega,by go_num,hb',Zw Hx.out hP.out hq⟩
    case measure=>simp[intOf];omega
  ·go_wp2;go_ret;exact⟨by rw[Ug (Z9 hlt hP.out)];rfl,hb.out⟩
theorem Xy (v:Value) (l:List Str) (g:Nat) (lb:Array Value) (w:World) (B:Nat) (p:Str->Bool) (hB:B<=w.heap.size)
  (h:SlAt strR 1 w B v l) (eg:∀ args w,(callFunc g args).run Tryz.prog w=.ok (.enter g args) w)
  (hp:∀ (x:Str)  (W:World),Below w.heap.size w W->x.length<=9223372036854775807->Calls Tryz.prog g (#[.string ⟨x.toArray⟩]++lb) W fun e w'=>e=.returned (.bool (p x))/\Below w.heap.size w w'):
  Calls Tryz.prog 142 #[v,.func (.func g) #[] lb] w fun e w'=>e=.returned (.bool (l.any p))/\Below w.heap.size w w':=by
 have hc:=Zak v l g lb w B p hB h eg hp;rw[<-Zex];generalize idxOf p l=r at hc ⊢;clear hp h;go_enter Tryz.func142,Tryz.ntmps142;go_wp2_with (go_at_call 188;refine hc.mono ?_;rintro e w' ⟨rfl,hb'⟩);go_ret;exact⟨rfl,hb'⟩
theorem Zhw (v:Value) (l:List GIns) (g:Nat) (lb:Array Value) (w:World) (B:Nat) (p:GIns->Bool) (hB:B<=w.heap.size)
  (h:SlAt insR 8 w B v l) (eg:∀ args w,(callFunc g args).run Tryz.prog w=.ok (.enter g args) w)
  (hp:∀ (x:GIns) (va vl:Value) (W:World),Below w.heap.size w W->InsAt W B x va vl->Calls Tryz.prog g (#[.agg #[.int .u8 x.op,.string ⟨x.dst.toArray⟩,.string ⟨x.a.toArray⟩,.string ⟨x.b.toArray⟩,.int .i64 x.n,.string ⟨x.fn.toArray⟩,va,vl]]++lb) W fun e w'=>e=.returned (.bool (p x))/\Below w.heap.size w w'):
  Calls Tryz.prog 202 #[v,.func (.func g) #[] lb] w fun e w'=>e=.returned (.int .i64 (idxOf p l))/\Below w.heap.size w w':=by
 obtain⟨A,c,rfl,hm,hlc,hcm,hA⟩:=h.open_;clear h;go_enter Tryz.func202,Tryz.ntmps202;go_wp2;go_loopw [8] (fun s8 wr=>∃ k:Nat,k<=l.length/\s8=.int .i64 k/\Hid (Below w.heap.size w wr)/\Hid (∀ j,j<k->∀ y,l[j]?=some y->p y=false)) (fun s8 _=>l.length-(intOf s8).toNat)
 case atStart=>exact⟨0,Ln _,rfl,Below.refl _ _,Z2⟩
 case round=>
  obtain⟨k,hkl,rfl,hb,hP⟩:=hrel
  by_cases hlt:k<l.length
  ·obtain⟨x,b,off,hx,rfl,hbB,va,vl,hi,c0,c1,c2,c3,c4,c5,c6,c7⟩:=(hA.below insR.keeps hb.out hB).at_ hlt;have hcall:=hp x va vl wr hb.out hi;have Hx:=hid hx;clear hx hp hA
   cases hq:p x with
   |true=>
    rw[hq] at hcall;go_wp2_with (go_at_fn g;refine hcall.mono ?_;rintro e w' ⟨rfl,hb'⟩);go_ret;exact⟨by rw[Qi hP.out Hx.out hq];rfl,hb'⟩
   |false=>
    rw[hq] at hcall;go_wp2_with (go_at_fn g;refine hcall.mono ?_;rintro e w' ⟨rfl,hb'⟩);go_roundw
    case rel=>exact⟨k+1,by omega,by go_num,hb',Zw Hx.out hP.out hq⟩
    case measure=>simp[intOf];omega
  ·go_wp2;go_ret;exact⟨by rw[Ug (Z9 hlt hP.out)];rfl,hb.out⟩
theorem Zco (v:Value) (l:List GIns) (g:Nat) (lb:Array Value) (w:World) (B:Nat) (p:GIns->Bool) (hB:B<=w.heap.size)
  (h:SlAt insR 8 w B v l) (eg:∀ args w,(callFunc g args).run Tryz.prog w=.ok (.enter g args) w)
  (hp:∀ (x:GIns) (va vl:Value) (W:World),Below w.heap.size w W->InsAt W B x va vl->Calls Tryz.prog g (#[.agg #[.int .u8 x.op,.string ⟨x.dst.toArray⟩,.string ⟨x.a.toArray⟩,.string ⟨x.b.toArray⟩,.int .i64 x.n,.string ⟨x.fn.toArray⟩,va,vl]]++lb) W fun e w'=>e=.returned (.bool (p x))/\Below w.heap.size w w'):
  Calls Tryz.prog 168 #[v,.func (.func g) #[] lb] w fun e w'=>e=.returned (.bool (l.any p))/\Below w.heap.size w w':=by
 have hc:=Zhw v l g lb w B p hB h eg hp;rw[<-Zex];generalize idxOf p l=r at hc ⊢;clear hp h;go_enter Tryz.func168,Tryz.ntmps168;go_wp2_with (go_at_call 202;refine hc.mono ?_;rintro e w' ⟨rfl,hb'⟩);go_ret;exact⟨rfl,hb'⟩
theorem Kn (v:Value) (l:List GBlk) (g:Nat) (lb:Array Value) (w:World) (B:Nat) (p:GBlk->Bool) (hB:B<=w.heap.size)
  (h:SlAt blkR 2 w B v l) (eg:∀ args w,(callFunc g args).run Tryz.prog w=.ok (.enter g args) w)
  (hp:∀ (x:GBlk) (vc:Value) (W:World),Below w.heap.size w W->BlkAt W B x vc->Calls Tryz.prog g (#[.agg #[.string ⟨x.label.toArray⟩,vc]]++lb) W fun e w'=>e=.returned (.bool (p x))/\Below w.heap.size w w'):
  Calls Tryz.prog 139 #[v,.func (.func g) #[] lb] w fun e w'=>e=.returned (.int .i64 (idxOf p l))/\Below w.heap.size w w':=by
 obtain⟨A,c,rfl,hm,hlc,hcm,hA⟩:=h.open_;clear h;go_enter Tryz.func139,Tryz.ntmps139;go_wp2;go_loopw [8] (fun s8 wr=>∃ k:Nat,k<=l.length/\s8=.int .i64 k/\Hid (Below w.heap.size w wr)/\Hid (∀ j,j<k->∀ y,l[j]?=some y->p y=false)) (fun s8 _=>l.length-(intOf s8).toNat)
 case atStart=>exact⟨0,Ln _,rfl,Below.refl _ _,Z2⟩
 case round=>
  obtain⟨k,hkl,rfl,hb,hP⟩:=hrel
  by_cases hlt:k<l.length
  ·obtain⟨x,b,off,hx,rfl,hbB,vc,hi,c0,c1⟩:=(hA.below blkR.keeps hb.out hB).at_ hlt;have hcall:=hp x vc wr hb.out hi;have Hx:=hid hx;clear hx hp hA
   cases hq:p x with
   |true=>
    rw[hq] at hcall;go_wp2_with (go_at_fn g;refine hcall.mono ?_;rintro e w' ⟨rfl,hb'⟩);go_ret;exact⟨by rw[Qi hP.out Hx.out hq];rfl,hb'⟩
   |false=>
    rw[hq] at hcall;go_wp2_with (go_at_fn g;refine hcall.mono ?_;rintro e w' ⟨rfl,hb'⟩);go_roundw
    case rel=>exact⟨k+1,by omega,by go_num,hb',Zw Hx.out hP.out hq⟩
    case measure=>simp[intOf];omega
  ·go_wp2;go_ret;exact⟨by rw[Ug (Z9 hlt hP.out)];rfl,hb.out⟩
theorem Zcn (v:Value) (l:List GBlk) (g:Nat) (lb:Array Value) (w:World) (B:Nat) (p:GBlk->Bool) (hB:B<=w.heap.size)
  (h:SlAt blkR 2 w B v l) (eg:∀ args w,(callFunc g args).run Tryz.prog w=.ok (.enter g args) w)
  (hp:∀ (x:GBlk) (vc:Value) (W:World),Below w.heap.size w W->BlkAt W B x vc->Calls Tryz.prog g (#[.agg #[.string ⟨x.label.toArray⟩,vc]]++lb) W fun e w'=>e=.returned (.bool (p x))/\Below w.heap.size w w'):
  Calls Tryz.prog 172 #[v,.func (.func g) #[] lb] w fun e w'=>e=.returned (.bool (l.any p))/\Below w.heap.size w w':=by
 have hc:=Kn v l g lb w B p hB h eg hp;rw[<-Zex];generalize idxOf p l=r at hc ⊢;clear hp h;go_enter Tryz.func172,Tryz.ntmps172;go_wp2_with (go_at_call 139;refine hc.mono ?_;rintro e w' ⟨rfl,hb'⟩);go_ret;exact⟨rfl,hb'⟩
theorem Zhv (v:Value) (l:List GFun) (g:Nat) (lb:Array Value) (w:World) (B:Nat) (p:GFun->Bool) (hB:B<=w.heap.size)
  (h:SlAt funR 3 w B v l) (eg:∀ args w,(callFunc g args).run Tryz.prog w=.ok (.enter g args) w)
  (hp:∀ (x:GFun) (vp vb:Value) (W:World),Below w.heap.size w W->FunAt W B x vp vb->Calls Tryz.prog g (#[.agg #[.string ⟨x.name.toArray⟩,vp,vb]]++lb) W fun e w'=>e=.returned (.bool (p x))/\Below w.heap.size w w'):
  Calls Tryz.prog 199 #[v,.func (.func g) #[] lb] w fun e w'=>e=.returned (.int .i64 (idxOf p l))/\Below w.heap.size w w':=by
 obtain⟨A,c,rfl,hm,hlc,hcm,hA⟩:=h.open_;clear h;go_enter Tryz.func199,Tryz.ntmps199;go_wp2;go_loopw [8] (fun s8 wr=>∃ k:Nat,k<=l.length/\s8=.int .i64 k/\Hid (Below w.heap.size w wr)/\Hid (∀ j,j<k->∀ y,l[j]?=some y->p y=false)) (fun s8 _=>l.length-(intOf s8).toNat)
 case atStart=>exact⟨0,Ln _,rfl,Below.refl _ _,Z2⟩
 case round=>
  obtain⟨k,hkl,rfl,hb,hP⟩:=hrel
  by_cases hlt:k<l.length
  ·obtain⟨x,b,off,hx,rfl,hbB,vp,vb,hi,c0,c1,c2⟩:=(hA.below funR.keeps hb.out hB).at_ hlt;have hcall:=hp x vp vb wr hb.out hi;have Hx:=hid hx;clear hx hp hA
   cases hq:p x with
   |true=>
    rw[hq] at hcall;go_wp2_with (go_at_fn g;refine hcall.mono ?_;rintro e w' ⟨rfl,hb'⟩);go_ret;exact⟨by rw[Qi hP.out Hx.out hq];rfl,hb'⟩
   |false=>
    rw[hq] at hcall;go_wp2_with (go_at_fn g;refine hcall.mono ?_;rintro e w' ⟨rfl,hb'⟩);go_roundw
    case rel=>exact⟨k+1,by omega,by go_num,hb',Zw Hx.out hP.out hq⟩
    case measure=>simp[intOf];omega
  ·go_wp2;go_ret;exact⟨by rw[Ug (Z9 hlt hP.out)];rfl,hb.out⟩
end
section
open Go.RowKit
def Zbt (c:Int):Bool:=((decide (97<=c)&&decide (c<=122))||(decide (65<=c)&&decide (c<=90)))||c == 95
def Ji (i:Int) (c:Int):Bool:= !Zbt c&&(i == 0||(decide (c<48)||decide (57<c))&& !(c == 46))
def Q2:Str:=[110,117,108,108]
def Xl (s:Str):Bool:= !(s.isEmpty||decide (64<(s.length:Int))||s == Q2)&&(Zq s fun i c=>if Ji i c.toNat then some () else none).isNone
theorem Zsd (s:Str) (h1:s.isEmpty=false) (h2:decide (64<(s.length:Int))=false) (h3:(s == [110,117,108,108])=false):
  Xl s=(Zq s fun i c=>if Ji i c.toNat then some () else none).isNone:=by simp[Xl,h1,h2,h3,Q2]
theorem is_no (s:Str) (w:World) (hs:s.length<=9223372036854775807) (hg:(s.isEmpty||decide (64<(s.length:Int))||s == Q2)=true):
  Calls Tryz.prog 155 #[.string ⟨s.toArray⟩] w fun e w'=>e=.returned (.bool (Xl s))/\w=w':=by
 have hfin:Xl s=false:=by simp only[Xl,hg];rfl
 rw[hfin];clear hfin;unfold Q2 at hg
 cases h1:s.isEmpty with
 |true=>
  go_enter Tryz.func155,Tryz.ntmps155;go_wp2;go_ret;exact⟨rfl,rfl⟩
 |false=>
  cases h2:decide (64<(s.length:Int)) with
  |true=>
   clear hg;go_enter Tryz.func155,Tryz.ntmps155;go_wp2;go_ret;exact⟨rfl,rfl⟩
  |false=>
   have h3:(s == [110,117,108,108])=true:=by simpa [h1,h2] using hg
   clear hg;go_enter Tryz.func155,Tryz.ntmps155;go_wp2;go_ret;exact⟨rfl,rfl⟩
theorem Zuv {s:Str} {k:Nat} {x:UInt8} (hx:s[k]?=some x) (hP:∀ j,j<k->∀ y,s[j]?=some y->Ji j y.toNat=false) (hb:Ji k x.toNat=true):
  (Zq s fun i c=>if Ji i c.toNat then some () else none).isNone=false:=by
 rw[Zo (fun j hj y hy=>by rw[if_neg];simp[hP j hj y hy]) hx (by rw[if_pos hb])];rfl
theorem is_good {s:Str} {k:Nat} (hk:¬ k<s.length) (hP:∀ j,j<k->∀ y,s[j]?=some y->Ji j y.toNat=false):
  (Zq s fun i c=>if Ji i c.toNat then some () else none).isNone=true:=by
 rw[Zx (fun j hj y hy=>by rw[if_neg];simp[hP j (by omega) y hy])];rfl
theorem is_yes (s:Str) (w:World) (hs:s.length<=9223372036854775807) (h1:s.isEmpty=false) (h2:decide (64<(s.length:Int))=false) (h3:(s == [110,117,108,108])=false):
  Calls Tryz.prog 155 #[.string ⟨s.toArray⟩] w fun e w'=>e=.returned (.bool (Xl s))/\w=w':=by
 rw[Zsd s h1 h2 h3];go_enter Tryz.func155,Tryz.ntmps155;go_wp2;go_loop [19] (fun s8=>∃ k:Nat,k<=s.length/\s8=.int .i64 k/\Hid (∀ j,j<k->∀ y,s[j]?=some y->Ji j y.toNat=false)) (fun s8=>s.length-(intOf s8).toNat)
 case atStart=>exact⟨0,Ln _,rfl,Z2⟩
 case round=>
  obtain⟨k,hkl,rfl,hP⟩:=hrel
  by_cases hlt:k<s.length
  ·obtain⟨x,hx⟩:∃ x,s[k]?=some x:=⟨_,Ld hlt⟩
   have hxx:(⟨s.toArray⟩:ByteArray)[k]'(by show k<s.toArray.size;simpa using hlt)=x:=by
    have:=(Le hx).2;rw[<-this];rfl
   have Hx:=hid hx;clear hx;have hx0:(0:Int)<=x.toNat:=Int.natCast_nonneg _;have hcs:∃ lo hi:Int,lo<=x.toNat/\(x.toNat:Int)<=hi/\((lo=0/\hi=45)\/(lo=46/\hi=46)\/(lo=47/\hi=47)\/(lo=48/\hi=57)\/(lo=58/\hi=64)\/(lo=65/\hi=90)\/(lo=91/\hi=94)\/(lo=95/\hi=95)\/(lo=96/\hi=96)\/(lo=97/\hi=122)\/(lo=123/\hi=300)):=by
    have h3:=x.toNat_lt
    rcases (show (x.toNat<=45)\/(x.toNat=46)\/(x.toNat=47)\/(48<=x.toNat/\x.toNat<=57)\/(58<=x.toNat/\x.toNat<=64)\/(65<=x.toNat/\x.toNat<=90)\/(91<=x.toNat/\x.toNat<=94)\/(x.toNat=95)\/(x.toNat=96)\/(97<=x.toNat/\x.toNat<=122)\/(123<=x.toNat) by omega) with h|h|h|h|h|h|h|h|h|h|h
    ·exact⟨0,45,by omega,by omega,by simp⟩
    ·exact⟨46,46,by omega,by omega,by simp⟩
    ·exact⟨47,47,by omega,by omega,by simp⟩
    ·exact⟨48,57,by omega,by omega,by simp⟩
    ·exact⟨58,64,by omega,by omega,by simp⟩
    ·exact⟨65,90,by omega,by omega,by simp⟩
    ·exact⟨91,94,by omega,by omega,by simp⟩
    ·exact⟨95,95,by omega,by omega,by simp⟩
    ·exact⟨96,96,by omega,by omega,by simp⟩
    ·exact⟨97,122,by omega,by omega,by simp⟩
    ·exact⟨123,300,by omega,by omega,by simp⟩
   obtain⟨lo,hi,hlo,hhi,hcs⟩:=hcs
   rcases hcs with ⟨rfl,rfl⟩|⟨rfl,rfl⟩|⟨rfl,rfl⟩|⟨rfl,rfl⟩|⟨rfl,rfl⟩|⟨rfl,rfl⟩|⟨rfl,rfl⟩|⟨rfl,rfl⟩|⟨rfl,rfl⟩|⟨rfl,rfl⟩|⟨rfl,rfl⟩
   all_goals
    first|(have e95:((x.toNat:Int) == 95)=false:=by simp;omega)|(have e95:((x.toNat:Int) == 95)=true:=by simp;omega)
    first|(have e46:((x.toNat:Int) == 46)=false:=by simp;omega)|(have e46:((x.toNat:Int) == 46)=true:=by simp;omega)
    have n95:(!((x.toNat:Int) == 95))= !((x.toNat:Int) == 95):=rfl;simp only[e95,Bool.not_true,Bool.not_false] at n95
    first|(have n46:((x.toNat:Int) != 46)=false:=by simp;omega)|(have n46:((x.toNat:Int) != 46)=true:=by simp;omega)
    clear n95
    by_cases hk0:k=0
    ·subst hk0;go_wp2
     all_goals first
     |(go_ret;refine⟨?_,rfl⟩;rw[Zuv Hx.out hP.out (by simp[Ji,Zbt];omega)];rfl)
     |(go_round;(case rel=>exact⟨1,by omega,by go_num,Zw Hx.out hP.out (by simp[Ji,Zbt];omega)⟩);(case measure=>simp[intOf];omega))
     |(exfalso;simp_all<;>omega)
    ·have hk1:((k:Int) == 0)=false:=by simp;omega
     go_wp2
     all_goals first
     |(go_ret;refine⟨?_,rfl⟩;rw[Zuv Hx.out hP.out (by simp[Ji,Zbt];omega)];rfl)
     |(go_round;(case rel=>exact⟨k+1,by omega,by go_num,Zw Hx.out hP.out (by simp[Ji,Zbt];omega)⟩);(case measure=>simp[intOf];omega))
     |(exfalso;simp_all<;>omega)
  ·go_wp2;go_ret;exact⟨by rw[is_good hlt hP.out];rfl,rfl⟩
theorem Zge (s:Str) (w:World) (hs:s.length<=9223372036854775807):
  Calls Tryz.prog 155 #[.string ⟨s.toArray⟩] w fun e w'=>e=.returned (.bool (Xl s))/\w=w':=by
 cases hg:(s.isEmpty||decide (64<(s.length:Int))||s == Q2) with
 |true=>exact is_no s w hs hg
 |false=>
  simp only[Bool.or_eq_false_iff] at hg;exact is_yes s w hs hg.1.1 hg.1.2 hg.2
end
section
open Go.RowKit
def Up (o:Nat):Bool:=(o == 12||o == 13)||o == 14
def Yj (o:Nat):Bool:=o == 10||o == 11
theorem Y9 (o:Nat) (w:World) (h:o<256):Calls Tryz.prog 161 #[.int .u8 o] w fun e w'=>e=.returned (.bool (Yj o))/\w=w':=by
 by_cases h1:o=10
 ·subst h1;go_enter Tryz.func161,Tryz.ntmps161;go_wp2;go_ret;exact⟨rfl,rfl⟩
 ·have e1:((o:Int) == 10)=false:=by simp;omega
  have f1:(o == 10)=false:=by simp;omega
  go_enter Tryz.func161,Tryz.ntmps161;go_wp2;go_ret;refine⟨?_,rfl⟩
  by_cases h2:o=11
  ·subst h2;rfl
  ·have f2:(o == 11)=false:=by simp;omega
   have e2:((o:Int) == 11)=false:=by simp;omega
   simp[Yj,f1,f2,e2]
theorem Zug (o:Nat) (w:World) (h:o<256):Calls Tryz.prog 166 #[.int .u8 o] w fun e w'=>e=.returned (.bool (Up o))/\w=w':=by
 by_cases h1:o=12
 ·subst h1;go_enter Tryz.func166,Tryz.ntmps166;go_wp2;go_ret;exact⟨rfl,rfl⟩
 by_cases h2:o=13
 ·subst h2;go_enter Tryz.func166,Tryz.ntmps166;go_wp2;go_ret;exact⟨rfl,rfl⟩
 ·have e1:((o:Int) == 12)=false:=by simp;omega
  have e2:((o:Int) == 13)=false:=by simp;omega
  have f1:(o == 12)=false:=by simp;omega
  have f2:(o == 13)=false:=by simp;omega
  go_enter Tryz.func166,Tryz.ntmps166;go_wp2;go_ret;refine⟨?_,rfl⟩
  by_cases h3:o=14
  ·subst h3;rfl
  ·have f3:(o == 14)=false:=by simp;omega
   have e3:((o:Int) == 14)=false:=by simp;omega
   simp[Up,f1,f2,f3,e3]
def Qt (operand:Bool) (s:Str):Bool:=(!s.isEmpty&& !Xl s)&& !(operand&&s == Q2)
def Zac (operand:Bool) (l:List Str):Bool:=l.any (Qt operand)
theorem Zje {op:Bool} {s:Str} (h:s.isEmpty=true):Qt op s=false:=by simp[Qt,h]
theorem Zrh {op:Bool} {s:Str} (h:Xl s=true):Qt op s=false:=by simp[Qt,h]
theorem Zrg {op:Bool} {s:Str} (h:s.isEmpty=false) (h':Xl s=false):Qt op s= !(op&&s == [110,117,108,108]):=by simp[Qt,h,h',Q2]
theorem bad_1 (op:Bool) (s:Str) (ob:Nat) (w:World) (hs:s.length<=9223372036854775807) (hc:w.cell? ⟨ob,0,none⟩=some (.bool op)):
  Calls Tryz.prog 198 #[.string ⟨s.toArray⟩,.pointer (some ⟨ob,0,none⟩)] w fun e w'=>e=.returned (.bool (Qt op s))/\w=w':=by
 have hi:=Zge s w hs
 cases h1:s.isEmpty with
 |true=>
  rw[Zje h1];clear hi;go_enter Tryz.func198,Tryz.ntmps198;go_wp2;go_ret;exact⟨rfl,rfl⟩
 |false=>
  cases h2:Xl s with
  |true=>
   rw[Zrh h2];rw[h2] at hi;go_enter Tryz.func198,Tryz.ntmps198;go_wp2_with (go_at_call 155;refine hi.mono ?_;rintro e w' ⟨rfl,rfl⟩);go_ret;exact⟨rfl,rfl⟩
  |false=>
   rw[Zrg h1 h2];rw[h2] at hi
   cases op
   all_goals
    go_enter Tryz.func198,Tryz.ntmps198;go_wp2_with (go_at_call 155;refine hi.mono ?_;rintro e w' ⟨rfl,rfl⟩);go_ret;exact⟨by simp,rfl⟩
theorem Zjv:∀ args w,(callFunc 198 args).run Tryz.prog w=.ok (.enter 198 args) w:=enters_of Tryz.func198 (by kernel_rfl) rfl
theorem Zjp (op:Bool) (v:Value) (l:List Str) (B:Nat) (w:World) (hB:B<=w.heap.size) (h:StrsAt w B v l):
  Calls Tryz.prog 157 #[.bool op,v] w fun e w'=>e=.returned (.bool (Zac op l))/\Below w.heap.size w w':=by
 have hc:=Xy v l 198 #[.pointer (some ⟨w.heap.size,0,none⟩)] (w.alloc (.cells #[.bool op] 4)) B (Qt op) (by simp;omega)
  (h.below strR.keeps ((Below.refl w.heap.size w).alloc (Lf _) _) hB) Zjv
  (fun x W hb hx=>(bad_1 op x w.heap.size W hx ((hb.cell (p:=⟨w.heap.size,0,none⟩) (by simp)).trans (by simp))).mono fun e w' ⟨he,hw⟩=>⟨he,hw▸hb⟩)
 obtain⟨A,c,rfl,hm,hlc,hcm,hA⟩:=h.open_;clear h;go_enter Tryz.func157,Tryz.ntmps157;go_wp2_with (go_at_call 142;refine hc.mono ?_;rintro e w' ⟨rfl,hb'⟩);go_ret;exact⟨rfl,((Below.refl _ w).alloc (Lf _) _).trans (hb'.mono (by simp))⟩
theorem Zri (s:Str) (w:World) (hs:s.length<=9223372036854775807):
  Calls Tryz.prog 156 #[.string ⟨s.toArray⟩] w fun e w'=>e=.returned (.bool (!Xl s))/\w=w':=by
 have hi:=Zge s w hs;generalize Xl s=q at hi ⊢;go_enter Tryz.func156,Tryz.ntmps156;go_wp2_with (go_at_call 155;refine hi.mono ?_;rintro e w' ⟨rfl,rfl⟩);go_ret;exact⟨rfl,rfl⟩
theorem Zcs:∀ args w,(callFunc 156 args).run Tryz.prog w=.ok (.enter 156 args) w:=enters_of Tryz.func156 (by kernel_rfl) rfl
theorem named_1 (x:GFun) (vp vb:Value) (s:Str) (sb:Nat) (w:World) (hsb:sb<w.heap.size) (hc:w.cell? ⟨sb,0,none⟩=some (.string ⟨s.toArray⟩)):
  Calls Tryz.prog 200 #[.agg #[.string ⟨x.name.toArray⟩,vp,vb],.pointer (some ⟨sb,0,none⟩)] w fun e w'=>e=.returned (.bool (x.name == s))/\Below w.heap.size w w':=by
 have hne:sb≠w.heap.size:=by omega
 go_enter Tryz.func200,Tryz.ntmps200;go_wp2;go_ret;exact⟨rfl,(Below.refl _ w).alloc (Lf _) _⟩
theorem Zft:∀ args w,(callFunc 200 args).run Tryz.prog w=.ok (.enter 200 args) w:=enters_of Tryz.func200 (by kernel_rfl) rfl
structure WalkAt (w:World) (B:Nat) (wb:Nat) (p:GProg) (vp vm:Value):Prop where
 prog:ProgAt w B vp p
 c0:w.cell? ⟨wb,0,none⟩=some vp
 c1:w.cell? ⟨wb,1,none⟩=some vm
 lt:wb<B
theorem WalkAt.below {w w':World} {B B' wb:Nat} {p:GProg} {vp vm:Value} (h:WalkAt w B wb p vp vm) (hb:Below B' w w') (hB:B<=B'):WalkAt w' B wb p vp vm:=
 have hlt:wb<B':=Lm h.lt hB
 ⟨h.prog.below funR.keeps hb hB,(hb.cell (p:=⟨wb,0,none⟩) hlt).trans h.c0,(hb.cell (p:=⟨wb,1,none⟩) hlt).trans h.c1,h.lt⟩
theorem WalkAt.more {w:World} {B B' wb:Nat} {p:GProg} {vp vm:Value} (h:WalkAt w B wb p vp vm) (hB:B<=B'):WalkAt w B' wb p vp vm:=
 ⟨h.prog.more funR.keeps hB,h.c0,h.c1,Lm h.lt hB⟩
def Xq (p:GProg) (s:Str):Int:=idxOf (fun f=>f.name == s) p
theorem Zcv (p:GProg) (vp vm:Value) (s:Str) (B wb:Nat) (w:World) (hB:B<=w.heap.size) (h:WalkAt w B wb p vp vm) (hs:s.length<=9223372036854775807):
  Calls Tryz.prog 160 #[.pointer (some ⟨wb,0,none⟩),.string ⟨s.toArray⟩] w fun e w'=>e=.returned (.int .i64 (Xq p s))/\Below w.heap.size w w':=by
 have hb0:Below w.heap.size w (w.alloc (.cells #[.string ⟨s.toArray⟩] 9)):=(Below.refl w.heap.size w).alloc (Lf _) _;have h':=h.below hb0 hB;have hc:=Zhv vp p 200 #[.pointer (some ⟨w.heap.size,0,none⟩)] (w.alloc (.cells #[.string ⟨s.toArray⟩] 9)) B (fun f=>f.name == s) (by simp;omega) h'.prog Zft
  (fun x vp' vb' W hb hx=>by
   have hsz:=hb.size
   simp only[World.size_alloc] at hsz
   refine (named_1 x vp' vb' s w.heap.size W (by omega) ((hb.cell (p:=⟨w.heap.size,0,none⟩) (by simp)).trans (by simp))).mono fun e w' ⟨he,hw⟩=>⟨he,hb.trans (hw.mono (by simpa using hsz))⟩)
 change Calls _ _ _ _ (fun e w'=>e=.returned (.int .i64 (Xq p s))/\_) at hc;generalize Xq p s=r at hc ⊢;obtain⟨A,c,rfl,hm,hlc,hcm,hA⟩:=h.prog.open_;have c0:=h.c0;have hlt:wb<w.heap.size:=by have:=h.lt;omega
 have hne:wb≠w.heap.size:=by omega
 clear h h' hA;go_enter Tryz.func160,Tryz.ntmps160;go_wp2_with (go_at_call 199;refine hc.mono ?_;rintro e w' ⟨rfl,hb'⟩);go_ret;exact⟨rfl,hb0.trans (hb'.mono (by simp))⟩
end
abbrev GPt:=Nat×Nat×Nat
def Yhm:Str:=[109,97,105,110]
structure Shp where
 dst:Bool
 a:Bool
 b:Bool
 n:Bool
 fn:Bool
 args:Bool
 lb9:Bool
def Y0:Nat->Option Shp
 |1|2=>some ⟨true,false,false,true,false,false,false⟩
 |3=>some ⟨true,false,false,false,false,false,false⟩
 |4=>some ⟨true,false,false,false,true,false,false⟩
 |5|8=>some ⟨true,true,false,false,false,false,false⟩
 |6=>some ⟨true,false,false,false,false,true,true⟩
 |7=>some ⟨true,true,false,true,false,false,false⟩
 |9=>some ⟨false,true,true,false,false,false,false⟩
 |10=>some ⟨true,false,false,false,true,true,false⟩
 |11=>some ⟨true,true,false,false,false,true,false⟩
 |12|13=>some ⟨false,false,false,false,false,false,true⟩
 |14=>some ⟨false,true,false,false,false,false,false⟩
 |_=>none
def Ym (o:Nat):Shp:=(Y0 o).getD ⟨false,false,false,false,false,false,false⟩
def Yr (f b:Nat):Nat->List GIns->List (GPt×GIns)
 |_,[]=>[]
 |k,x::l=>((f,b,k),x)::Yr f b (k+1) l
def Z8 (f:Nat):Nat->List GBlk->List (GPt×GIns)
 |_,[]=>[]
 |b,x::l=>Yr f b 0 x.code++Z8 f (b+1) l
def Xb:Nat->GProg->List (GPt×GIns)
 |_,[]=>[]
 |f,x::l=>Z8 f 0 x.bk9++Xb (f+1) l
def pts (p:GProg):List (GPt×GIns):=Xb 0 p
def Zim (p:GProg) (g:GPt->GIns->Bool):Option GPt:=Zq (pts p) fun _ x=>if g x.1 x.2 then some x.1 else none
def X8 (p:GProg):Option GPt:=if p.length=0\/64<p.length then some (0,0,0) else none
def Yn (x:GIns):Bool:=
 (((((Ym x.op).dst&&Zac false [x.dst])||((Ym x.op).fn&&Zac false [x.fn]))||((Ym x.op).a&&Zac true [x.a]))||((Ym x.op).b&&Zac true [x.b]))||
  ((Ym x.op).args&&(Zac true x.args||x.args.contains []))||((Ym x.op).lb9&&(Zac false x.lb9||x.lb9.contains []))
def bnC (i b k:Nat) (x:GIns):Option GPt:=if Yn x then some (i,b,k) else none
def bnB (i b:Nat) (bl:GBlk):Option GPt:=if !Xl bl.label then some (i,b,0) else Zq bl.code (bnC i b)
def bnF (i:Nat) (f:GFun):Option GPt:=if !Xl f.name||f.params.any (fun s=> !Xl s) then some (i,0,0) else Zq f.bk9 (bnB i)
def Vp (p:GProg):Option GPt:=Zq p bnF
def Q8 (p:GProg):Option GPt:=Zq p fun i f=>if ((p.take i).map (·.name)).contains f.name then some (i,0,0) else none
def U1 (p:GProg):Option GPt:=match p.findIdx? (fun f=>f.name == Yhm) with
 |none=>some (0,0,0)
 |some m=>if 0<((p[m]?).map (·.params.length)).getD 0 then some (m,0,0) else none
def mpC (i b k:Nat) (x:GIns):Option GPt:=if Yj x.op&&decide (8<x.args.length) then some (i,b,k) else none
def mpB (i b:Nat) (bl:GBlk):Option GPt:=Zq bl.code (mpC i b)
def mpF (i:Nat) (f:GFun):Option GPt:=if 8<f.params.length then some (i,0,0) else Zq f.bk9 (mpB i)
def U7 (p:GProg):Option GPt:=Zq p mpF
def U6 (p:GProg):Option GPt:=Zq p fun i f=>if f.bk9.length=0\/64<f.bk9.length then some (i,0,0) else none
def tlB (i:Nat) (l:List GBlk) (b:Nat) (bl:GBlk):Option GPt:=if ((l.take b).map (·.label)).contains bl.label then some (i,b,0) else none
def tlF (i:Nat) (f:GFun):Option GPt:=Zq f.bk9 (tlB i f.bk9)
def U8 (p:GProg):Option GPt:=Zq p tlF
def Zab (p:GProg):Option GPt:=Zq (pts p) fun n x=>if 4096<=n then some x.1 else none
def Y1 (x:GIns):Bool:=match Y0 x.op with
 |none=>true
 |some s=>(!s.dst&& !x.dst.isEmpty)||(!s.a&& !x.a.isEmpty)||(!s.b&& !x.b.isEmpty)||(!s.n&& !(x.n == 0))||(!s.fn&& !x.fn.isEmpty)||(!s.args&& !x.args.isEmpty)||(!s.lb9&& !x.lb9.isEmpty)||
  (s.dst&&x.dst.isEmpty&& !Yj x.op)||(s.a&&x.a.isEmpty&& !(x.op == 14))||(s.b&&x.b.isEmpty)||(s.fn&&x.fn.isEmpty)
def Y6 (x:GIns):Bool:=
 if x.op=1\/x.op=2 then decide (x.n<1)||decide (64<x.n)
 else if x.op=7 then decide (x.n<0)||decide (64<=x.n)
 else if x.op=6 then x.args.isEmpty|| !(x.args.length == x.lb9.length)
 else if x.op=12 then !(x.lb9.length == 2)
 else if x.op=13 then !(x.lb9.length == 1)
 else false
def Zm (x:GIns):Bool:=Y1 x||Y6 x
def K2 (p:GProg):Option GPt:=Zim p fun _ x=>Zm x
def beC (i b n k:Nat) (x:GIns):Option GPt:=if Up x.op != (decide (k+1=n)) then some (i,b,k) else none
def beB (i b:Nat) (bl:GBlk):Option GPt:=if bl.code.length=0 then some (i,b,0) else Zq bl.code (beC i b bl.code.length)
def beF (i:Nat) (f:GFun):Option GPt:=Zq f.bk9 (beB i)
def Zca (p:GProg):Option GPt:=Zq p beF
def Yx (p:GProg) (f:Nat):List GBlk:=((p[f]?).map (·.bk9)).getD []
def Vy (p:GProg) (f b:Nat):List GIns:=(((Yx p f)[b]?).map (·.code)).getD []
def Zcb (p:GProg):Option GPt:=Zim p fun pt x=>x.op == 6&&(pt.2.1 == 0||((Vy p pt.1 pt.2.1).take pt.2.2).any fun y=> !(y.op == 6))
def Jz (p:GProg):Option GPt:=Zim p fun pt x=>x.lb9.any fun s=> !((Yx p pt.1).any fun b=>b.label == s)
def Zcc (p:GProg):Option GPt:=Zim p fun _ x=>(x.op == 10||x.op == 4)&&decide (Xq p x.fn<0)
def Vi (p:GProg) (s:Str):Nat:=((p[(Xq p s).toNat]?).map (·.params.length)).getD 0
def Zgr (p:GProg):Option GPt:=Zim p fun _ x=>(x.op == 10&&decide (0<=Xq p x.fn))&& !(Vi p x.fn == x.args.length)
def Qd (l:List GIns):List Str:=l.map (·.dst)
def Vb (l:List GBlk):List Str:=l.flatMap fun b=>Qd b.code
def tvP (i:Nat) (l:List Str) (j:Nat) (s:Str):Option GPt:=if (l.take j).contains s then some (i,0,0) else none
def tvC (i b:Nat) (ahead:List Str) (l:List GIns) (k:Nat) (x:GIns):Option GPt:=if !x.dst.isEmpty&&(ahead++Qd (l.take k)).contains x.dst then some (i,b,k) else none
def tvB (i:Nat) (ps:List Str) (l:List GBlk) (b:Nat) (bl:GBlk):Option GPt:=Zq bl.code (tvC i b (ps++Vb (l.take b)) bl.code)
def tvF (i:Nat) (f:GFun):Option GPt:=match Zq f.params (tvP i f.params) with
 |some r=>some r
 |none=>Zq f.bk9 (tvB i f.params f.bk9)
def Uv (p:GProg):Option GPt:=Zq p tvF
def nvC (vars:List Str) (i b k:Nat) (x:GIns):Option GPt:=if (x.a::x.b::x.args).any fun s=> !(vars.contains s) then some (i,b,k) else none
def nvB (vars:List Str) (i b:Nat) (bl:GBlk):Option GPt:=Zq bl.code (nvC vars i b)
def Xg (f:GFun):List Str:=[]::Q2::(f.params++Vb f.bk9)
def nvF (i:Nat) (f:GFun):Option GPt:=Zq f.bk9 (nvB (Xg f) i)
def Zda (p:GProg):Option GPt:=Zq p nvF
def Vn (p:GProg):Nat->Option GPt
 |1=>X8 p
 |2=>Vp p
 |3=>Q8 p
 |4=>U1 p
 |5=>U7 p
 |6=>U6 p
 |7=>U8 p
 |8=>Zab p
 |9=>K2 p
 |10=>Zca p
 |11=>Zcb p
 |12=>Jz p
 |13=>Zcc p
 |14=>Zgr p
 |15=>Uv p
 |16=>Zda p
 |_=>none
def Yc (p:GProg):Nat×GPt:=(Y2 (fun r _=>(Vn p r).map fun pt=>(r,pt)) 1 (List.range 16)).getD (0,(0,0,0))
theorem Q7 (f b:Nat):∀ (l l':List GIns) (k:Nat),Yr f b k (l++l')=Yr f b k l++Yr f b (k+l.length) l'
 |[],_,_=>by simp[Yr]
 |x::l,l',k=>by simp[Yr,Q7 f b l l' (k+1),Nat.add_assoc,Nat.add_comm 1]
theorem Uu (f:Nat):∀ (l l':List GBlk) (k:Nat),Z8 f k (l++l')=Z8 f k l++Z8 f (k+l.length) l'
 |[],_,_=>by simp[Z8]
 |x::l,l',k=>by simp[Z8,Uu f l l' (k+1),Nat.add_assoc,Nat.add_comm 1]
theorem Ul:∀ (l l':GProg) (k:Nat),Xb k (l++l')=Xb k l++Xb (k+l.length) l'
 |[],_,_=>by simp[Xb]
 |x::l,l',k=>by simp[Xb,Ul l l' (k+1),Nat.add_assoc,Nat.add_comm 1]
theorem K3 {α:Type} {l:List α} {k:Nat} {x:α} (h:l[k]?=some x):l=l.take k++(x::l.drop (k+1))/\(l.take k).length=k:=by
 obtain⟨hk,e⟩:=Le h;refine⟨?_,by simp;omega⟩;have h1:l.drop k=x::l.drop (k+1):=by rw[List.drop_eq_getElem_cons hk,e]
 rw[<-h1,List.take_append_drop]
def X7 (p:GProg) (i:Nat):List (GPt×GIns):=Xb 0 (p.take i)
def Vj (p:GProg) (i:Nat) (bs:List GBlk) (b:Nat):List (GPt×GIns):=X7 p i++Z8 i 0 (bs.take b)
def Xv (p:GProg) (i:Nat) (bs:List GBlk) (b:Nat) (c:List GIns) (k:Nat):List (GPt×GIns):=Vj p i bs b++Yr i b 0 (c.take k)
theorem Kg {p:GProg} {i:Nat} {bs:List GBlk} {b:Nat} {c:List GIns} {k:Nat} {x:GIns} (h:c[k]?=some x):Xv p i bs b c (k+1)=Xv p i bs b c k++[((i,b,k),x)]:=by
 obtain⟨_,hl⟩:=K3 h;have:c.take (k+1)=c.take k++[x]:=by rw[List.take_add_one,h];rfl
 simp[Xv,this,Q7,Yr,hl]
theorem Zea {p:GProg} {i:Nat} {bs:List GBlk} {b:Nat} {c:List GIns}:Xv p i bs b c 0=Vj p i bs b:=by simp[Xv,Yr]
theorem Zdz {p:GProg} {i:Nat} {bs:List GBlk}:Vj p i bs 0=X7 p i:=by simp[Vj,Z8]
theorem Kf {p:GProg}:X7 p 0=[]:=by simp[X7,Xb]
theorem Zdy {p:GProg} {i:Nat} {bs:List GBlk} {b:Nat} {y:GBlk} {k:Nat} (h:bs[b]?=some y) (hk:¬ k<y.code.length):Vj p i bs (b+1)=Xv p i bs b y.code k:=by
 obtain⟨_,hl⟩:=K3 h;have:bs.take (b+1)=bs.take b++[y]:=by rw[List.take_add_one,h];rfl
 simp[Xv,Vj,this,Uu,Z8,hl,List.take_of_length_le (Nat.le_of_not_lt hk)]
theorem Jy {p:GProg} {i:Nat} {f:GFun} {b:Nat} (h:p[i]?=some f) (hb:¬ b<f.bk9.length):X7 p (i+1)=Vj p i f.bk9 b:=by
 obtain⟨_,hl⟩:=K3 h;have:p.take (i+1)=p.take i++[f]:=by rw[List.take_add_one,h];rfl
 simp[Vj,X7,this,Ul,Xb,hl,List.take_of_length_le (Nat.le_of_not_lt hb)]
theorem Zbb {p:GProg} {i:Nat} (h:¬ i<p.length):X7 p i=pts p:=by simp[X7,pts,List.take_of_length_le (Nat.le_of_not_lt h)]
theorem Um {p:GProg} {i b k:Nat} {f:GFun} {y:GBlk} {x:GIns} (hf:p[i]?=some f) (hy:f.bk9[b]?=some y) (hx:y.code[k]?=some x):
  Xv p i f.bk9 b y.code k++[((i,b,k),x)]<+:pts p:=by
 obtain⟨ef,lf⟩:=K3 hf;obtain⟨ey,ly⟩:=K3 hy;obtain⟨ex,lx⟩:=K3 hx;have h1:pts p=X7 p i++(Z8 i 0 f.bk9++Xb (i+1) (p.drop (i+1))):=by
  conv=>lhs;rw[pts,ef,Ul,lf]
  simp[X7,Xb]
 have h2:Z8 i 0 f.bk9=Z8 i 0 (f.bk9.take b)++(Yr i b 0 y.code++Z8 i (b+1) (f.bk9.drop (b+1))):=by
  conv=>lhs;rw[ey,Uu,ly]
  simp[Z8]
 have h3:Yr i b 0 y.code=Yr i b 0 (y.code.take k)++(((i,b,k),x)::Yr i b (k+1) (y.code.drop (k+1))):=by
  conv=>lhs;rw[ex,Q7,lx]
  simp[Yr]
 rw[h1,h2,h3];refine⟨Yr i b (k+1) (y.code.drop (k+1))++(Z8 i (b+1) (f.bk9.drop (b+1))++Xb (i+1) (p.drop (i+1))),?_⟩;simp[Xv,Vj]
theorem Zbu {p:GProg} {i b k:Nat} {f:GFun} {y:GBlk} {x:GIns} (hf:p[i]?=some f) (hy:f.bk9[b]?=some y) (hx:y.code[k]?=some x):((i,b,k),x)∈pts p:=
 (Um hf hy hx).subset (by simp)
theorem Vg {f b:Nat}:∀ {l:List GIns} {k:Nat} {pt:GPt} {x:GIns},(pt,x)∈Yr f b k l->∃ j,l[j]?=some x/\pt=(f,b,k+j)
 |[],_,_,_,h=>by simp[Yr] at h
 |z::l,k,pt,x,h=>by
  simp only[Yr,List.mem_cons] at h
  rcases h with h|h
  ·injection h with h1 h2
   exact⟨0,by rw[h2];rfl,by simpa using h1⟩
  ·obtain⟨j,h1,h2⟩:=Vg h;exact⟨j+1,by simpa using h1,by rw[h2];congr 2;omega⟩
theorem Xz {f:Nat}:∀ {l:List GBlk} {b:Nat} {pt:GPt} {x:GIns},(pt,x)∈Z8 f b l->∃ j y k,l[j]?=some y/\y.code[k]?=some x/\pt=(f,b+j,k)
 |[],_,_,_,h=>by simp[Z8] at h
 |z::l,b,pt,x,h=>by
  simp only[Z8,List.mem_append] at h
  rcases h with h|h
  ·obtain⟨k,h1,h2⟩:=Vg h;exact⟨0,z,k,rfl,h1,by simpa using h2⟩
  ·obtain⟨j,y,k,h1,h2,h3⟩:=Xz h;exact⟨j+1,y,k,by simpa using h1,h2,by rw[h3];congr 2;omega⟩
theorem Q5:∀ {l:GProg} {i:Nat} {pt:GPt} {x:GIns},(pt,x)∈Xb i l->∃ j f b y k,l[j]?=some f/\f.bk9[b]?=some y/\y.code[k]?=some x/\pt=(i+j,b,k)
 |[],_,_,_,h=>by simp[Xb] at h
 |z::l,i,pt,x,h=>by
  simp only[Xb,List.mem_append] at h
  rcases h with h|h
  ·obtain⟨j,y,k,h1,h2,h3⟩:=Xz h;exact⟨0,z,j,y,k,rfl,h1,h2,by simpa using h3⟩
  ·obtain⟨j,f,b,y,k,h1,h2,h3,h4⟩:=Q5 h;exact⟨j+1,f,b,y,k,by simpa using h1,h2,h3,by rw[h4];congr 1;omega⟩
theorem Ut {p:GProg} {pt:GPt} {x:GIns} (h:(pt,x)∈pts p):∃ f y,p[pt.1]?=some f/\f.bk9[pt.2.1]?=some y/\y.code[pt.2.2]?=some x:=by
 obtain⟨j,f,b,y,k,h1,h2,h3,h4⟩:=Q5 h;subst h4;exact⟨f,y,by simpa using h1,h2,h3⟩
section
open Go.RowKit
theorem Zir (v:Value) (l:List Str) (s:Str) (w:World) (B:Nat) (h:StrsAt w B v l):
  Calls Tryz.prog 185 #[v,.string ⟨s.toArray⟩] w fun e w'=>e=.returned (.int .i64 (idxOf (fun x=>x == s) l))/\w=w':=by
 obtain⟨A,c,rfl,hm,hlc,hcm,hA⟩:=h.open_;clear h;go_enter Tryz.func185,Tryz.ntmps185;go_wp2;go_loop [8] (fun s8=>∃ k:Nat,k<=l.length/\s8=.int .i64 k/\Hid (∀ j,j<k->∀ y,l[j]?=some y->(y == s)=false)) (fun s8=>l.length-(intOf s8).toNat)
 case atStart=>exact⟨0,Ln _,rfl,Z2⟩
 case round=>
  obtain⟨k,hkl,rfl,hP⟩:=hrel
  by_cases hlt:k<l.length
  ·obtain⟨x,b,off,hx,rfl,hbB,hc,hsl⟩:=hA.at1 hlt;have Hx:=hid hx;clear hx hA
   cases hq:s == x with
   |true=>
    have Hq:=hid (show (x == s)=true by have:=eq_of_beq hq;subst this;simp);go_wp2;go_ret;exact⟨by rw[Qi hP.out Hx.out Hq.out];rfl,rfl⟩
   |false=>
    have Hq:=hid (show (x == s)=false by
     cases h2:x == s with
     |false=>rfl
     |true=>have:=eq_of_beq h2;subst this;simp at hq)
    go_wp2;go_round
    case rel=>exact⟨k+1,by omega,by go_num,Zw Hx.out hP.out Hq.out⟩
    case measure=>simp[intOf];omega
  ·go_wp2;go_ret;exact⟨by rw[Ug (Z9 hlt hP.out)];rfl,rfl⟩
theorem any_beq (l:List Str) (s:Str):(l.any fun x=>x == s)=l.contains s:=by
 induction l with
 |nil=>rfl
 |cons x l ih=>
  have e:(x == s)=(s == x):=by
   cases h:s == x with
   |true=>have:=eq_of_beq h;subst this;simp
   |false=>cases h2:x == s with
    |false=>rfl
    |true=>have:=eq_of_beq h2;subst this;simp at h
  simp only[List.any_cons,List.contains_cons,ih,e]
theorem K6 (v:Value) (l:List Str) (s:Str) (w:World) (B:Nat) (h:StrsAt w B v l):
  Calls Tryz.prog 132 #[v,.string ⟨s.toArray⟩] w fun e w'=>e=.returned (.bool (l.contains s))/\w=w':=by
 have hc:=Zir v l s w B h;rw[<-any_beq,<-Zex];generalize idxOf (fun x=>x == s) l=r at hc ⊢;clear h;go_enter Tryz.func132,Tryz.ntmps132;go_wp2_with (go_at_call 185;refine hc.mono ?_;rintro e w' ⟨rfl,rfl⟩);go_ret;exact⟨rfl,rfl⟩
theorem Zom (v:Value) (l:List Bool) (s:Bool) (w:World) (B:Nat) (h:BoolsAt w B v l):
  Calls Tryz.prog 134 #[v,.bool s] w fun e w'=>e=.returned (.int .i64 (idxOf (fun x=>x == s) l))/\w=w':=by
 obtain⟨A,c,rfl,hm,hlc,hcm,hA⟩:=h.open_;clear h;go_enter Tryz.func134,Tryz.ntmps134;go_wp2;go_loop [8] (fun s8=>∃ k:Nat,k<=l.length/\s8=.int .i64 k/\Hid (∀ j,j<k->∀ y,l[j]?=some y->(y == s)=false)) (fun s8=>l.length-(intOf s8).toNat)
 case atStart=>exact⟨0,Ln _,rfl,Z2⟩
 case round=>
  obtain⟨k,hkl,rfl,hP⟩:=hrel
  by_cases hlt:k<l.length
  ·obtain⟨x,b,off,hx,rfl,hbB,hc⟩:=hA.at1 hlt;unfold boolR at hc;have Hx:=hid hx;clear hx hA
   by_cases hq:x=s
   ·have Hq:=hid (show (x == s)=true by simp[hq]);subst hq;go_wp2;go_ret;exact⟨by rw[Qi hP.out Hx.out Hq.out];rfl,rfl⟩
   ·have Hq:=hid (show (x == s)=false by simp[hq]);have hs:s= !x:=by cases x<;>cases s<;>simp_all
    subst hs
    cases x
    all_goals
     go_wp2;go_round
     case rel=>exact⟨k+1,by omega,by go_num,Zw Hx.out hP.out Hq.out⟩
     case measure=>simp[intOf];omega
  ·go_wp2;go_ret;exact⟨by rw[Ug (Z9 hlt hP.out)];rfl,rfl⟩
theorem Kx (v:Value) (l:List Nat) (g:Nat) (lb:Array Value) (w:World) (B:Nat) (p:Nat->Bool) (hB:B<=w.heap.size)
  (h:SlAt natR 1 w B v l) (eg:∀ args w,(callFunc g args).run Tryz.prog w=.ok (.enter g args) w)
  (hp:∀ (x:Nat) (W:World),Below w.heap.size w W->x∈l->Calls Tryz.prog g (#[.int .i64 x]++lb) W fun e w'=>e=.returned (.bool (p x))/\Below w.heap.size w w'):
  Calls Tryz.prog 182 #[v,.func (.func g) #[] lb] w fun e w'=>e=.returned (.int .i64 (idxOf p l))/\Below w.heap.size w w':=by
 obtain⟨A,c,rfl,hm,hlc,hcm,hA⟩:=h.open_;clear h;go_enter Tryz.func182,Tryz.ntmps182;go_wp2;go_loopw [8] (fun s8 wr=>∃ k:Nat,k<=l.length/\s8=.int .i64 k/\Hid (Below w.heap.size w wr)/\Hid (∀ j,j<k->∀ y,l[j]?=some y->p y=false)) (fun s8 _=>l.length-(intOf s8).toNat)
 case atStart=>exact⟨0,Ln _,rfl,Below.refl _ _,Z2⟩
 case round=>
  obtain⟨k,hkl,rfl,hb,hP⟩:=hrel
  by_cases hlt:k<l.length
  ·obtain⟨x,b,off,hx,rfl,hbB,hc,hsl⟩:=(hA.below natR.keeps hb.out hB).at1 hlt;have hcall:=hp x wr hb.out (Ll hx);have Hx:=hid hx;clear hx hp hA
   cases hq:p x with
   |true=>
    rw[hq] at hcall;go_wp2_with (go_at_fn g;refine hcall.mono ?_;rintro e w' ⟨rfl,hb'⟩);go_ret;exact⟨by rw[Qi hP.out Hx.out hq];rfl,hb'⟩
   |false=>
    rw[hq] at hcall;go_wp2_with (go_at_fn g;refine hcall.mono ?_;rintro e w' ⟨rfl,hb'⟩);go_roundw
    case rel=>exact⟨k+1,by omega,by go_num,hb',Zw Hx.out hP.out hq⟩
    case measure=>simp[intOf];omega
  ·go_wp2;go_ret;exact⟨by rw[Ug (Z9 hlt hP.out)];rfl,hb.out⟩
theorem Zgc {α:Type} {p:α->Bool} {l:List α} (h:∀ x,x∈l->p x=false):idxOf p l= -1:=
 Ug (fun _ _ y hy=>h y (Ll hy))
end

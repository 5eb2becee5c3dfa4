/- What package names has checked. No condition. -/
import Derived.Test.YtlcogjllnbfneaaGreatESat
import Derived.Test.YtlcogjllnbfneaaGreatENch
set_option maxHeartbeats 4000000
set_option maxRecDepth 100000
set_option linter.all false
namespace Go.Proofs.YtlcogjllnbfneaaGreat
open Lib(hid)
theorem Ud {α β:Type} {g:Nat->α->Option β}:∀ {l:List α} {k:Nat},Y2 g k l=none->∀ j x,l[j]?=some x->g (k+j) x=none
 |[],_,_,j,x,hj=>by simp at hj
 |y::l,k,h,j,x,hj=>by
  unfold Y2 at h
  split at h
  ·cases h
  ·rename_i he
   rcases j with _|j
   ·simp only[List.getElem?_cons_zero,Option.some.injEq] at hj;subst hj;exact he
   ·have:=Ud h j x (by simpa using hj)
    rwa [show k+1+j=k+(j+1) by omega] at this
theorem Zl {α β:Type} {g:Nat->α->Option β} {l:List α} (h:Zq l g=none) {j:Nat} {x:α} (hj:l[j]?=some x):g j x=none:=by
 have:=Ud h j x hj
 rwa [Nat.zero_add] at this
theorem Ue {α β:Type} {g:Nat->α->Option β} {b:β}:∀ {l:List α} {k:Nat},Y2 g k l=some b->∃ j x,l[j]?=some x/\g (k+j) x=some b/\∀ i,i<j->∀ y,l[i]?=some y->g (k+i) y=none
 |[],_,h=>by simp[Y2] at h
 |y::l,k,h=>by
  unfold Y2 at h
  split at h
  ·rename_i r he
   cases h
   exact⟨0,y,rfl,he,fun i hi=>absurd hi (Nat.not_lt_zero _)⟩
  ·rename_i he
   obtain⟨j,x,h1,h2,h3⟩:=Ue h;refine⟨j+1,x,by simpa using h1,by rwa [show k+(j+1)=k+1+j by omega],fun i hi z hz=>?_⟩
   rcases i with _|i
   ·simp only[List.getElem?_cons_zero,Option.some.injEq] at hz;subst hz;exact he
   ·have:=h3 i (by omega) z (by simpa using hz)
    rwa [show k+1+i=k+(i+1) by omega] at this
theorem Zer {α β:Type} {g:Nat->α->Option β} {l:List α} {b:β} (h:Zq l g=some b):∃ j x,l[j]?=some x/\g j x=some b/\∀ i,i<j->∀ y,l[i]?=some y->g i y=none:=by
 obtain⟨j,x,h1,h2,h3⟩:=Ue h;exact⟨j,x,h1,by rwa [Nat.zero_add] at h2,fun i hi y hy=>by have:=h3 i hi y hy;rwa [Nat.zero_add] at this⟩
theorem Zgm (p:GProg):(Yc p=(0,(0,0,0))/\∀ r,1<=r->r<=16->Vn p r=none)\/(1<=(Yc p).1/\(Yc p).1<=16/\Vn p (Yc p).1=some (Yc p).2/\∀ r,1<=r->r<(Yc p).1->Vn p r=none):=by
 unfold Yc
 cases h:Y2 (fun r _=>(Vn p r).map fun pt=>(r,pt)) 1 (List.range 16) with
 |none=>
  left;refine⟨rfl,fun r h1 h2=>?_⟩;have:=Ud h (r-1) (r-1) (by rw[List.getElem?_range (by omega)]);rw[show 1+(r-1)=r by omega] at this;simpa using this
 |some q=>
  right;obtain⟨j,x,h1,h2,h3⟩:=Ue h;have hj:=(Le h1).1;simp only[List.length_range] at hj;simp only[Option.map_eq_some_iff] at h2;obtain⟨pt,h4,rfl⟩:=h2;refine⟨by simp,by simp;omega,h4,fun r hr1 hr2=>?_⟩;simp only[Option.getD_some] at hr2;have:=h3 (r-1) (by omega) (r-1) (by rw[List.getElem?_range (by omega)]);rw[show 1+(r-1)=r by omega] at this;simpa using this
theorem Zkb {p:GProg} (h:(Yc p).1=0):Yc p=(0,(0,0,0))/\∀ r,1<=r->r<=16->Vn p r=none:=by
 rcases Zgm p with h1|h1
 ·exact h1
 ·omega
def NOk (p:GProg):Prop:=∀ r,1<=r->r<=16->Vn p r=none
theorem Qw {p:GProg} {g:GPt->GIns->Bool} (h:Zim p g=none) {i b k:Nat} {f:GFun} {y:GBlk} {x:GIns} (hf:p[i]?=some f) (hy:f.bk9[b]?=some y) (hx:y.code[k]?=some x):g (i,b,k) x=false:=by
 obtain⟨n,hn,e⟩:=List.mem_iff_getElem.1 (Zbu hf hy hx);have:=Zl h (Ld hn);rw[e] at this;simpa using this
theorem NOk.funcs {p:GProg} (h:NOk p):0<p.length/\p.length<=64:=by
 have:=h 1 (by omega) (by omega);simp only[Vn,X8] at this
 split at this
 ·cases this
 ·omega
theorem NOk.bk9 {p:GProg} (h:NOk p) {i:Nat} {f:GFun} (hf:p[i]?=some f):0<f.bk9.length/\f.bk9.length<=64:=by
 have:=Zl (show U6 p=none from h 6 (by omega) (by omega)) hf
 split at this
 ·cases this
 ·omega
theorem NOk.params {p:GProg} (h:NOk p) {i:Nat} {f:GFun} (hf:p[i]?=some f):f.params.length<=8:=by
 have:=Zl (h 5 (by omega) (by omega)) hf;unfold mpF at this
 split at this
 ·cases this
 ·omega
theorem Jw (f b:Nat):∀ (l:List GIns) (k:Nat),(Yr f b k l).length=l.length
 |[],_=>rfl
 |x::l,k=>by simp[Yr,Jw f b l (k+1)]
theorem NOk.codes {p:GProg} (h:NOk p):(pts p).length<=4096:=by
 refine Nat.le_of_not_lt fun hn=>?_
 have:=Zl (h 8 (by omega) (by omega)) (Ld hn);simp at this
theorem NOk.code {p:GProg} (h:NOk p) {i b:Nat} {f:GFun} {y:GBlk} (hf:p[i]?=some f) (hy:f.bk9[b]?=some y):y.code.length<=4096:=by
 have h1:=h.codes
 by_cases h0:y.code.length=0
 ·omega
 ·have hx:y.code[y.code.length-1]?=some y.code[y.code.length-1]:=Ld (by omega);have:=(Um hf hy hx).length_le;simp only[Xv,List.length_append,Jw,List.length_take,List.length_singleton] at this;omega
theorem NOk.ends {p:GProg} (h:NOk p) {i b:Nat} {f:GFun} {y:GBlk} (hf:p[i]?=some f) (hy:f.bk9[b]?=some y):y.code≠[]/\∀ k x,y.code[k]?=some x->Up x.op=decide (k+1=y.code.length):=by
 have h1:=Zl (h 10 (by omega) (by omega)) hf;have h2:=Zl (show Zq f.bk9 (beB i)=none from h1) hy;unfold beB at h2
 split at h2
 ·cases h2
 ·rename_i h0
  refine⟨fun e=>h0 (by rw[e];rfl),fun k x hx=>?_⟩;have h3:=Zl h2 hx;unfold beC at h3
  split at h3
  ·cases h3
  ·rename_i h4
   simpa using h4
theorem NOk.ins {p:GProg} (h:NOk p) {i b k:Nat} {f:GFun} {y:GBlk} {x:GIns} (hf:p[i]?=some f) (hy:f.bk9[b]?=some y) (hx:y.code[k]?=some x):Zm x=false:=Qw (show K2 p=none from h 9 (by omega) (by omega)) hf hy hx
theorem Zdk {p:GProg} {i:Nat} {f:GFun} (hf:p[i]?=some f):Yx p i=f.bk9:=by simp[Yx,hf]
theorem NOk.lb9 {p:GProg} (h:NOk p) {i b k:Nat} {f:GFun} {y:GBlk} {x:GIns} (hf:p[i]?=some f) (hy:f.bk9[b]?=some y) (hx:y.code[k]?=some x):∀ s∈x.lb9,∃ j,Yd f.bk9 s=some j:=by
 have h1:=Qw (show Jz p=none from h 12 (by omega) (by omega)) hf hy hx;simp only[List.any_eq_false,Zdk hf,Bool.not_eq_true',Bool.not_eq_false] at h1;intro s hs;have h2:=h1 s hs;simp only[Classical.not_forall,Classical.not_not] at h2;obtain⟨z,hz,e⟩:=h2;have:=Zmd hz
 rwa [eq_of_beq e] at this
theorem NOk.phi {p:GProg} (h:NOk p) {i b k:Nat} {f:GFun} {y:GBlk} {x:GIns} (hf:p[i]?=some f) (hy:f.bk9[b]?=some y) (hx:y.code[k]?=some x) (h6:x.op=6):x.args.length=x.lb9.length:=by
 have h1:=h.ins hf hy hx;unfold Zm Y6 at h1;rw[h6] at h1;simp only[Bool.or_eq_false_iff] at h1;have:=h1.2;simp only[show ¬((6:Nat)=1\/6=2) by omega,show ¬((6:Nat)=7) by omega,if_true,if_false,Bool.or_eq_false_iff,Bool.not_eq_false',beq_iff_eq] at this;exact this.2
theorem NOk.flds {p:GProg} (h:NOk p) {i b k:Nat} {f:GFun} {y:GBlk} {x:GIns} (hf:p[i]?=some f) (hy:f.bk9[b]?=some y) (hx:y.code[k]?=some x):0<=V0 x/\V0 x<=64:=by
 unfold V0
 split
 ·rename_i h12
  have h1:=h.ins hf hy hx;unfold Zm Y6 at h1;simp only[Bool.or_eq_false_iff] at h1;have:=h1.2;rw[if_pos h12] at this;simp at this;omega
 ·omega
theorem V2 {y:GBlk} (h:y.code≠[]):y.code[y.code.length-1]?=some (Y7 y):=by
 have hp:=List.length_pos_iff.2 h;have e:y.code[y.code.length-1]?=some y.code[y.code.length-1]:=Ld (by omega);rw[e];unfold Y7;rw[List.getLastD_eq_getLast?,List.getLast?_eq_getElem?,e];rfl
theorem NOk.fok {p:GProg} (h:NOk p) {i:Nat} {f:GFun} (hf:p[i]?=some f):FOk f:=by
 have hb:=h.bk9 hf;have key:∀ y∈f.bk9,∃ b,f.bk9[b]?=some y:=fun y hy=>by
  obtain⟨b,hb,e⟩:=List.mem_iff_getElem.1 hy;exact⟨b,by rw[List.getElem?_eq_getElem hb,e]⟩
 have keyx:∀ y:GBlk,∀ x∈y.code,∃ k,y.code[k]?=some x:=fun y x hx=>by
  obtain⟨b,hb,e⟩:=List.mem_iff_getElem.1 hx;exact⟨b,by rw[List.getElem?_eq_getElem hb,e]⟩
 refine⟨⟨by omega,fun y hy=>?_,fun y hy=>?_,fun y hy hn s hs=>?_⟩,fun e=>by rw[e] at hb;simp at hb,fun y hy=>?_,fun y hy x hx h6=>?_,fun y hy x hx=>?_⟩
 ·obtain⟨b,hy⟩:=key y hy;exact (h.ends hf hy).1
 ·obtain⟨b,hy⟩:=key y hy;obtain⟨h1,h2⟩:=h.ends hf hy;have h3:=h2 _ _ (V2 h1);have hp:=List.length_pos_iff.2 h1;rw[decide_eq_true (show y.code.length-1+1=y.code.length by omega)] at h3;unfold Up at h3;simpa [or_assoc] using h3
 ·obtain⟨b,hy⟩:=key y hy;exact h.lb9 hf hy (V2 (h.ends hf hy).1) s hs
 ·obtain⟨b,hy⟩:=key y hy;exact h.code hf hy
 ·obtain⟨b,hy⟩:=key y hy;obtain⟨k,hx⟩:=keyx y x hx;exact h.phi hf hy hx h6
 ·obtain⟨b,hy⟩:=key y hy;obtain⟨k,hx⟩:=keyx y x hx;exact h.lb9 hf hy hx
def Jo (l:List GIns):Nat:=(l.filter fun x=> !x.dst.isEmpty).length
def Ur (l:List GIns):Int:=(l.map V0).sum
def Ka (p:GProg) (k:Nat):Nat:=((p.take k).map Zjt).sum
def Q0 (p:GProg) (k:Nat):Int:=p.length+((p.take k).map fldF).sum
def Yk (f:GFun) (j:Nat):List GIns:=(f.bk9.take j).flatMap (·.code)
theorem Zpy (l:List GIns):Jo l<=l.length:=List.length_filter_le _ _
theorem Zlc (l l':List GIns):Jo (l++l')=Jo l+Jo l':=by simp[Jo]
theorem Zlw (l l':List GIns):Ur (l++l')=Ur l+Ur l':=by simp[Ur]
theorem Znh (p:GProg):Ka p 0=0:=by simp[Ka]
theorem Zds (p:GProg):Q0 p 0=p.length:=by simp[Q0]
theorem Zei {p:GProg} {k:Nat} {f:GFun} (h:p[k]?=some f):Ka p (k+1)=Ka p k+(f.params.length+Jo (Yk f f.bk9.length)):=by
 have:p.take (k+1)=p.take k++[f]:=by rw[List.take_add_one,h];rfl
 simp[Ka,this,Zjt,Jo,Yk]
theorem Zdr {p:GProg} {k:Nat} {f:GFun} (h:p[k]?=some f):Q0 p (k+1)=Q0 p k+Ur (Yk f f.bk9.length):=by
 have:p.take (k+1)=p.take k++[f]:=by rw[List.take_add_one,h];rfl
 simp[Q0,this,fldF,Ur,Yk];omega
theorem Zpp (p:GProg):Ka p p.length=Kc p:=by simp[Ka,Kc]
theorem Zof (p:GProg):Q0 p p.length=Jj p:=by simp[Q0,Jj]
theorem Zdl (f:GFun):Yk f 0=[]:=by simp[Yk]
theorem Jp {f:GFun} {j:Nat} {y:GBlk} (h:f.bk9[j]?=some y):Yk f (j+1)=Yk f j++y.code:=by
 have:f.bk9.take (j+1)=f.bk9.take j++[y]:=by rw[List.take_add_one,h];rfl
 simp[Yk,this]
theorem K5 {f:GFun} (h:∀ y∈f.bk9,y.code.length<=4096):∀ j,(Yk f j).length<=j*4096:=by
 intro j
 induction j with
 |zero=>simp[Yk]
 |succ j ih=>
  cases hy:f.bk9[j]? with
  |none=>
   have:f.bk9.take (j+1)=f.bk9.take j:=by rw[List.take_add_one,hy];simp
   have e:Yk f (j+1)=Yk f j:=by unfold Yk;rw[this]
   rw[e];exact Nat.le_trans ih (Nat.mul_le_mul_right _ (Nat.le_succ _))
  |some y=>
   rw[Jp hy,List.length_append];have:=h y (Ll hy);have e:(j+1)*4096=j*4096+4096:=Nat.succ_mul j 4096;rw[e];exact Nat.add_le_add ih this
theorem Zfx {l:List GIns} (h:∀ x∈l,0<=V0 x/\V0 x<=64):0<=Ur l/\Ur l<=l.length*64:=by
 induction l with
 |nil=>simp[Ur]
 |cons x l ih=>
  have h1:=ih fun y hy=>h y (List.mem_cons_of_mem _ hy)
  have h2:=h x (List.mem_cons_self ..);have e:Ur (x::l)=V0 x+Ur l:=by simp[Ur]
  rw[e,List.length_cons];omega
theorem NOk.codeFld {p:GProg} (h:NOk p) {i:Nat} {f:GFun} (hf:p[i]?=some f) (j:Nat):∀ x∈Yk f j,0<=V0 x/\V0 x<=64:=by
 intro x hx;unfold Yk at hx;obtain⟨y,hy,hx⟩:=List.mem_flatMap.1 hx;obtain⟨b,hb,e⟩:=List.mem_iff_getElem.1 (List.mem_of_mem_take hy);obtain⟨k,hk,e2⟩:=List.mem_iff_getElem.1 hx;exact h.flds hf (show f.bk9[b]?=some y by rw[List.getElem?_eq_getElem hb,e]) (show y.code[k]?=some x by rw[List.getElem?_eq_getElem hk,e2])
theorem NOk.varsB {p:GProg} (h:NOk p):∀ k,k<=p.length->Ka p k<=k*300000:=by
 intro k
 induction k with
 |zero=>intro _;simp[Ka]
 |succ k ih=>
  intro hk;have hf:p[k]?=some p[k]:=Ld hk;have h1:=ih (by omega);have h2:=h.params hf;have h3:=K5 (h.fok hf).code p[k].bk9.length;have h4:=h.bk9 hf;have h5:=Zpy (Yk p[k] p[k].bk9.length);rw[Zei hf];omega
theorem NOk.fldsB {p:GProg} (h:NOk p):∀ k,k<=p.length->0<=Q0 p k/\Q0 p k<=64+k*20000000:=by
 intro k
 induction k with
 |zero=>
  intro _;have:=h.funcs;rw[Zds];omega
 |succ k ih=>
  intro hk;have hf:p[k]?=some p[k]:=Ld hk;have h1:=ih (by omega);have h3:=K5 (h.fok hf).code p[k].bk9.length;have h4:=h.bk9 hf;have h5:=Zfx (h.codeFld hf p[k].bk9.length);rw[Zdr hf];omega
theorem Zua {pre l:List GIns} {i:Nat} {z:GIns} (h:l[i]?=some z):Jo (pre++l.take (i+1))=Jo (pre++l.take i)+(if z.dst.isEmpty then 0 else 1):=by
 have e:l.take (i+1)=l.take i++[z]:=by rw[List.take_add_one,h];rfl
 rw[e,<-List.append_assoc,Zlc]
 congr 1
 unfold Jo
 cases hz:z.dst.isEmpty<;>simp[hz]
theorem Zuo {pre l:List GIns} {i:Nat} {z:GIns} (h:l[i]?=some z):Ur (pre++l.take (i+1))=Ur (pre++l.take i)+V0 z:=by
 have e:l.take (i+1)=l.take i++[z]:=by rw[List.take_add_one,h];rfl
 rw[e,<-List.append_assoc,Zlw]
 congr 1
 simp[Ur]
theorem NOk.partB {p:GProg} (h:NOk p) {k:Nat} {f:GFun} (hf:p[k]?=some f) {j:Nat} {y:GBlk} (hy:f.bk9[j]?=some y) (i:Nat):
  Jo (Yk f j++y.code.take i)<=300000/\0<=Ur (Yk f j++y.code.take i)/\Ur (Yk f j++y.code.take i)<=20000000:=by
 have h1:=K5 (h.fok hf).code j;have h2:=(h.bk9 hf).2;have h3:j<f.bk9.length:=(Le hy).1;have h4:=h.code hf hy;have h5:(Yk f j++y.code.take i).length<=270000:=by
  rw[List.length_append,List.length_take];have:j*4096<=64*4096:=Nat.mul_le_mul_right _ (by omega);omega
 have h6:=Zpy (Yk f j++y.code.take i)
 have h7:=Zfx (l:=Yk f j++y.code.take i) (fun x hx=>h.codeFld hf (j+1) x (by
  rw[Jp hy]
  rcases List.mem_append.1 hx with hx|hx
  ·exact List.mem_append_left _ hx
  ·exact List.mem_append_right _ (List.mem_of_mem_take hx)))
 omega
theorem Zin {z:GIns} (h1:z.op≠1) (h2:z.op≠2):V0 z=0:=by
 unfold V0;rw[if_neg (by omega)]
theorem Vf {z:GIns} (h:z.op=1\/z.op=2):V0 z=z.n:=by
 unfold V0;rw[if_pos h]
section
open Go.RowKit Go.Shelf
def Agr (Q:Nat->Prop) (w w':World):Prop:=w.heap.size<=w'.heap.size/\∀ k,k<w.heap.size->¬ Q k->w'.heap[k]?=w.heap[k]?
theorem Agr.trans {Q Q':Nat->Prop} {w1 w2 w3:World} (h:Agr Q w1 w2) (h':Agr Q' w2 w3) (hq:∀ k,k<w1.heap.size->Q' k->Q k):Agr Q w1 w3:=
 ⟨Nat.le_trans h.1 h'.1,fun k hk hn=>(h'.2 k (Lm hk h.1) (fun e=>hn (hq k hk e))).trans (h.2 k hk hn)⟩
theorem Agr.grown {Q:Nat->Prop} {w w':World} {row:Option Nat} (h:w.grownBy w' row) (hq:∀ r,row=some r->Q r):Agr Q w w':=
 ⟨h.size,fun k hk hn=>h.block k hk fun e=>hn (hq k e.symm)⟩
def Zez (Q:Nat->Prop) (w:World) (b:Nat) (f:GFun):Prop:=∀ w',Agr Q w w'->Body w' w'.heap.size b f
def Ztp (B:Nat) (f:GFun) (w:World) (e:Ending) (w':World):Prop:=∃ b,e=.returned (.pointer (some ⟨b,0,none⟩))/\(∀ Q:Nat->Prop,(∀ k,k<w'.heap.size->Q k->B<=k/\k<w.heap.size)->Zez Q w' b f)/\w.heap.size<=b/\Below w.heap.size w w'
structure SP (w:World) (B B1 b:Nat) (f:GFun) (A1:Option Addr) (d1:Nat) (A2:Option Addr) (d2 S S2 O M:Nat) (order:List Nat) (o:Out) (m:Defs) (wr:World):Prop where
 blk:wr.heap[b]?=some (.cells #[.string ⟨f.name.toArray⟩,.slice A1 f.params.length d1,.slice A2 f.bk9.length d2,.slice (some ⟨S,0,none⟩) f.bk9.length f.bk9.length,.slice (some ⟨S2,0,none⟩) f.bk9.length f.bk9.length,.slice (some ⟨O,0,none⟩) f.bk9.length f.bk9.length,.map (some M)] 149 (0,0))
 fn:FunAt wr B f (.slice A1 f.params.length d1) (.slice A2 f.bk9.length d2)
 succ:GraphAt wr B1 (.slice (some ⟨S,0,none⟩) f.bk9.length f.bk9.length) (Zv f.bk9)
 pred:GraphAt wr B1 (.slice (some ⟨S2,0,none⟩) f.bk9.length f.bk9.length) (Xx (Zv f.bk9))
 tree:TreeAt wr wr.heap.size O (Zv f.bk9) order o
 map:wr.heap[M]?=some (Z7 encS Qe m)
 low:Below w.heap.size w wr
 b1:w.heap.size<B1
 f0:wr.heap[w.heap.size]?=some (.cells #[.string ⟨f.name.toArray⟩,.slice A1 f.params.length d1,.slice A2 f.bk9.length d2] 37 (0,0))
 b2:B1<=M
 b3:M≠O
 b4:M≠b
 b5:w.heap.size<=b
 b6:w.heap.size<=S
 b7:w.heap.size<=S2
 b8:w.heap.size<=O
 fr:∃ (w3:World) (base base2:Nat),w3.heap.size=B1/\Below B1 w3 wr/\OwnG base w3 S (Zv f.bk9)/\OwnG base2 w3 S2 (Xx (Zv f.bk9))
theorem SP.grow {w:World} {B B1 b:Nat} {f:GFun} {A1:Option Addr} {d1:Nat} {A2:Option Addr} {d2 S S2 O M:Nat} {order:List Nat} {o:Out} {m:Defs} {wr wr':World} (h:SP w B B1 b f A1 d1 A2 d2 S S2 O M order o m wr) (hg:wr.grownBy wr' none) (hB:B<=w.heap.size):
  SP w B B1 b f A1 d1 A2 d2 S S2 O M order o m wr' where
 blk:=(hg.block b (Ze h.blk) (by simp)).trans h.blk
 fn:=h.fn.below (Zk hg) (by have:=h.low.size;omega)
 succ:=h.succ.below rowR.keeps (Zk hg) (by have:=Ze h.map;have:=h.b2;omega)
 pred:=h.pred.below rowR.keeps (Zk hg) (by have:=Ze h.map;have:=h.b2;omega)
 tree:=(h.tree.below (Zk hg) (Lf _)).more hg.size
 map:=(hg.block M (Ze h.map) (by simp)).trans h.map
 low:=Z1 h.low hg (by have:=h.low.size;omega) (fun r e=>by cases e)
 b1:=h.b1
 f0:=(hg.block _ (Ze h.f0) (by simp)).trans h.f0
 b2:=h.b2
 b3:=h.b3
 b4:=h.b4
 b5:=h.b5
 b6:=h.b6
 b7:=h.b7
 b8:=h.b8
 fr:=by
  obtain⟨w3,base,base2,h1,h2,h3⟩:=h.fr;exact⟨w3,base,base2,h1,h2.trans ((Zk hg).mono (by have:=Ze h.map;have:=h.b2;omega)),h3⟩
theorem SP.put {w:World} {B B1 b:Nat} {f:GFun} {A1:Option Addr} {d1:Nat} {A2:Option Addr} {d2 S S2 O M:Nat} {order:List Nat} {o:Out} {m m':Defs} {wr:World} (h:SP w B B1 b f A1 d1 A2 d2 S S2 O M order o m wr) (hB:B<=w.heap.size):
  SP w B B1 b f A1 d1 A2 d2 S S2 O M order o m' (wr.putObj M (Z7 encS Qe m')):=by
 have hb:Below B1 wr (wr.putObj M (Z7 encS Qe m')):=(Turned.putObj wr M _).below (Below.refl B1 wr) h.b2;have hl:=h.low.size;have h1:=h.b1
 exact {
  blk:=(World.putObj_heap_other h.b4.symm).trans h.blk
  fn:=h.fn.below hb (by omega)
  succ:=h.succ.below rowR.keeps hb (Lf _)
  pred:=h.pred.below rowR.keeps hb (Lf _)
  tree:=⟨by simpa [World.putObj] using h.tree.lt,(World.putObj_heap_other h.b3.symm).trans h.tree.blk,h.tree.rpo,h.tree.ok,h.tree.nodes⟩
  map:=Xt h.map _
  low:=h.low.trans (hb.mono (by omega))
  f0:=(World.putObj_heap_other (by have:=h.b2;omega)).trans h.f0
  b1:=h.b1,b2:=h.b2,b3:=h.b3,b4:=h.b4,b5:=h.b5,b6:=h.b6,b7:=h.b7,b8:=h.b8
  fr:=by
   obtain⟨w3,base,base2,h1,h2,h3⟩:=h.fr
   exact⟨w3,base,base2,h1,h2.trans hb,h3⟩ }
theorem OwnG.agr {base S lo:Nat} {w w':World} {L:List (List Nat)} {Q:Nat->Prop} (h:OwnG base w S L) (hg:Agr Q w w') (hS:lo<=S) (hQ:∀ k,k<w.heap.size->Q k->k<lo):OwnG base w' S L:=by
 obtain⟨vs,h1,hh,h2,h3,h4⟩:=h;have hk:∀ k,k<w.heap.size->lo<=k->w'.heap[k]?=w.heap[k]?:=fun k hk hl=>hg.2 k hk fun e=>by have:=hQ k hk e;omega
 exact⟨vs,h1,(hk S (Ze hh) hS).trans hh,h2,fun j v l a b=>by
  have h9:=h3 j v l a b
  exact⟨h9.1,h9.2.imp id fun ⟨g,cap,cur,e,hb,hh',r⟩=>⟨g,cap,cur,e,hb,(hk g (Ze hh') (by omega)).trans hh',r⟩⟩,h4⟩
theorem SP.done {w:World} {B B1 b:Nat} {f:GFun} {A1:Option Addr} {d1:Nat} {A2:Option Addr} {d2 S S2 O M:Nat} {order:List Nat} {o:Out} {wr:World} (h:SP w B B1 b f A1 d1 A2 d2 S S2 O M order o (Kt f) wr) (hB:B<=w.heap.size) (hok:OfOk f.bk9)
  (Q:Nat->Prop) (hQ:∀ k,k<wr.heap.size->Q k->B<=k/\k<w.heap.size):Zez Q wr b f:=by
 intro w' hg;have hM:=Ze h.map;have h1:=h.b1;have h2:=h.b2;have h5:=h.b5;have h6:=h.b6;have h7:=h.b7;have h8:=h.b8;have hn:=hok.len;have hl:=h.low.size;have hs:=hg.1;have hkeep:∀ k,w.heap.size<=k->k<wr.heap.size->w'.heap[k]?=wr.heap[k]?:=fun k hk1 hk2=>hg.2 k hk2 (fun e=>by have:=(hQ k hk2 e).2;omega)
 have hlowk:∀ k,k<B->w'.heap[k]?=wr.heap[k]?:=fun k hk1=>hg.2 k (by omega) (fun e=>by have:=(hQ k (by omega) e).1;omega)
 have hgk:=Zcj hok;have hgb:=GOk.back (Zv f.bk9) (by rw[Zr];exact hn);obtain⟨w3,base,base2,e3,hb3,ho1,ho2⟩:=h.fr;have ho1':=((ho1.below (by rw[e3];exact hb3)).agr hg h6 (fun k hk e=>(hQ k hk e).2)).graph (n:=f.bk9.length) (Zr _).symm (by unfold maxLen;omega) (fun r hr x hx=>by have:=hgk.lt r hr x hx;rw[Zr] at this;omega);have ho2':=((ho2.below (by rw[e3];exact hb3)).agr hg h7 (fun k hk e=>(hQ k hk e).2)).graph (n:=f.bk9.length) (by rw[Xd,Zr]) (by unfold maxLen;omega) (fun r hr x hx=>by have:=hgb.lt r hr x hx;rw[Xd,Zr] at this;omega);have hO:=h.tree.lt;have hbl:=Ze h.blk
 exact⟨A1,d1,A2,d2,S,S2,O,M,order,o,by omega,(hkeep b h5 hbl).trans h.blk,(h.fn.keep (fun p hp=>Lj (hlowk p.block hp))).more (by omega),ho1',ho2',
  ⟨by omega,(hkeep O h8 hO).trans h.tree.blk,h.tree.rpo,h.tree.ok,h.tree.nodes⟩,(hkeep M (by omega) hM).trans h.map,by omega⟩
theorem SP.start {w w3 wr:World} {B b:Nat} {f:GFun} {A1:Option Addr} {d1:Nat} {A2:Option Addr} {d2 S S2 O M:Nat} {order:List Nat} {o:Out} (hB:B<=w.heap.size) (hb3:Below w.heap.size w w3) (hb:Below w3.heap.size w3 wr) (hf0:w3.heap[w.heap.size]?=some (.cells #[.string ⟨f.name.toArray⟩,.slice A1 f.params.length d1,.slice A2 f.bk9.length d2] 37 (0,0)))
  (h:FunAt w B f (.slice A1 f.params.length d1) (.slice A2 f.bk9.length d2))
  (hG:GraphAt w3 w3.heap.size (.slice (some ⟨S,0,none⟩) f.bk9.length f.bk9.length) (Zv f.bk9))
  (hG2:GraphAt w3 w3.heap.size (.slice (some ⟨S2,0,none⟩) f.bk9.length f.bk9.length) (Xx (Zv f.bk9)))
  (h1:wr.heap[O]?=some (.cells (Zqw o 0).toArray 3 (0,0))) (h2:RPO (Zv f.bk9) 0 order) (h3:TreeOk (Zv f.bk9) 0 order o) (h4:∀ x∈order,x<(Zv f.bk9).length)
  (hbl:wr.heap[b]?=some (.cells #[.string ⟨f.name.toArray⟩,.slice A1 f.params.length d1,.slice A2 f.bk9.length d2,.slice (some ⟨S,0,none⟩) f.bk9.length f.bk9.length,.slice (some ⟨S2,0,none⟩) f.bk9.length f.bk9.length,.slice (some ⟨O,0,none⟩) f.bk9.length f.bk9.length,.map (some M)] 149 (0,0)))
  (hm:wr.heap[M]?=some (Z7 encS Qe [])) (b2:w3.heap.size<=M) (b3:M≠O) (b4:M≠b) (b5:w.heap.size<=b) (b6:w.heap.size<=S) (b7:w.heap.size<=S2) (b8:w.heap.size<=O) {base base2:Nat} (ho1:OwnG base w3 S (Zv f.bk9)) (ho2:OwnG base2 w3 S2 (Xx (Zv f.bk9))):
  SP w B w3.heap.size b f A1 d1 A2 d2 S S2 O M order o [] wr where
 blk:=hbl
 fn:=(h.below hb3 hB).below hb (by have:=hb3.size;omega)
 succ:=hG.below rowR.keeps hb (Lf _)
 pred:=hG2.below rowR.keeps hb (Lf _)
 tree:=⟨Ze h1,h1,h2,h3,h4⟩
 map:=hm
 low:=hb3.trans (hb.mono hb3.size)
 b1:=Ze hf0
 f0:=(hb.block _ (Ze hf0)).trans hf0
 b2:=b2
 b3:=b3
 b4:=b4
 b5:=b5
 b6:=b6
 b7:=b7
 b8:=b8
 fr:=⟨w3,base,base2,rfl,hb,ho1,ho2⟩
theorem Y4 {w w':World} {row:Option Nat} (h:w.grownBy w' row):w.grownBy w'.drew row:=⟨h.os,h.tape,h.output,h.size,h.block⟩
theorem Ztj (f:GFun) (vp vb:Value) (B:Nat) (w:World) (hB:B<=w.heap.size) (h:FunAt w B f vp vb) (hok:OfOk f.bk9) (hne:f.bk9≠[]):
  Calls Tryz.prog 57 #[.agg #[.string ⟨f.name.toArray⟩,vp,vb]] w fun e w'=>Ztp B f w e w':=by
 have hn:=hok.len;obtain⟨A1,d1,rfl,m1,_,_,hP⟩:=h.params.open_;obtain⟨A2,d2,rfl,m2,_,_,hA⟩:=h.bk9.open_;have hF:w.heap.size<(w.alloc (.cells #[.string ⟨f.name.toArray⟩,.slice A1 f.params.length d1,.slice A2 f.bk9.length d2] 37)).heap.size:=by simp
 have hof:=of_any f (.slice A1 f.params.length d1) (.slice A2 f.bk9.length d2) B (w.alloc (.cells #[.string ⟨f.name.toArray⟩,.slice A1 f.params.length d1,.slice A2 f.bk9.length d2] 37)) (by simp;omega) (h.below ((Below.refl B w).alloc (by omega) _) (Lf _)) hok;have hf0:=La w (.cells #[.string ⟨f.name.toArray⟩,.slice A1 f.params.length d1,.slice A2 f.bk9.length d2] 37);have hb0:Below w.heap.size w (w.alloc (.cells #[.string ⟨f.name.toArray⟩,.slice A1 f.params.length d1,.slice A2 f.bk9.length d2] 37)):=(Below.refl _ w).alloc (Lf _) _;go_enter Tryz.func57,Tryz.ntmps57;go_upto_region 1 with (fail)
 repeat go_step
 refine hof.mono ?_;rintro e w2 ⟨S,S2,base,base2,rfl,hS,hS2,hG,hG2,hb2⟩;have hf2:=(hb2.block _ hF).trans hf0;have hb2':=hb0.trans (hb2.mono (by simp));have hsz2:=hb2.size;simp only[World.size_alloc] at hS hS2 hsz2;have hgk:=Zcj hok;have hlS:=hG.lt;have hlS2:=hG2.lt;clear hF hf0 hb0 hof;go_upto_region 2 with (fail)
 obtain⟨w3,hw3⟩:∃ w3:World,w3=w2.alloc (.cells #[.slice (some ⟨S,0,none⟩) f.bk9.length f.bk9.length,.slice (some ⟨S2,0,none⟩) f.bk9.length f.bk9.length] 143):=⟨_,rfl⟩
 have hg3:w2.grownBy w3 none:=by rw[hw3];exact Lc _ _ _
 have hs3:w3.heap.size=w2.heap.size+1:=by rw[hw3];simp
 have x1:w3.heap[w.heap.size]?=some (.cells #[.string ⟨f.name.toArray⟩,.slice A1 f.params.length d1,.slice A2 f.bk9.length d2] 37 (0,0)):=(hg3.block _ (by omega) (by simp)).trans hf2;have x2:w3.heap[w2.heap.size]?=some (.cells #[.slice (some ⟨S,0,none⟩) f.bk9.length f.bk9.length,.slice (some ⟨S2,0,none⟩) f.bk9.length f.bk9.length] 143 (0,0)):=by rw[hw3];exact La _ _
 have hG':=(hG.kept hg3).graph (n:=f.bk9.length) (Zr _).symm (by unfold maxLen;omega) (fun r hr x hx=>by have:=hgk.lt r hr x hx;rw[Zr] at this;omega);have hG2':=(hG2.kept hg3).graph (n:=f.bk9.length) (by rw[Xd,Zr]) (by unfold maxLen;omega) (fun r hr x hx=>by have:=(GOk.back (Zv f.bk9) (by rw[Zr];exact hn)).lt r hr x hx;rw[Xd,Zr] at this;omega);have hb3:Below w.heap.size w w3:=hb2'.trans ((Zk hg3).mono (by omega));rw[<-hw3];have h0:0<(Zv f.bk9).length:=by rw[Zr];exact List.length_pos_iff.2 hne
 have htree:∀ W:World,w3.grownBy W none->Calls Tryz.prog 88 #[.slice (some ⟨S,0,none⟩) f.bk9.length f.bk9.length,.int .i64 0] W fun e w'=>Zpu (Zv f.bk9) 0 W e w':=
  fun W hg=>Zwg _ (Zv f.bk9) 0 w3.heap.size W hg.size (hG'.below rowR.keeps (Zk hg) (Lf _)) hgk h0
 have hs0:w.heap.size<w3.heap.size:=by omega
 have hs02:w2.heap.size<w3.heap.size:=by omega
 have HG:=hid hG';have Ho1:=hid (hG.kept hg3);have Ho2:=hid (hG2.kept hg3);have Hok:=hid hok;have HG2:=hid hG2';have Hb3:=hid hb3;have Hh:=hid h;have Hhne:=hid hne;have HP:=hid hP;have HA:=hid hA;have hwB:w.heap.size+1<=w2.heap.size:=by omega
 clear hw3 hg3 hs3 hG hG2 hG' hG2' hb2 hf2 hb2' hb3 h hne hP hA h0 hgk hok hlS hlS2 hsz2;go_cut [5] (fun s5 wx=>∃ (b O M:Nat) (order:List Nat) (o:Out),s5=.pointer (some ⟨b,0,none⟩)/\Hid (SP w B w3.heap.size b f A1 d1 A2 d2 S S2 O M order o [] wx))
 case first=>
  obtain⟨y1,_⟩:=Za x1;obtain⟨y2,_⟩:=Za x2;have hmm:∀ w:World,(Instr.makeMap 147 none).run Tryz.prog w=.ok (.map (some w.heap.size)) (w.alloc (Z7 encS Qe [])):= @run_makeMap Tryz.prog 147;go_region_held3 (fun w'=>w'.cell? ⟨w.heap.size,0,none⟩=some (.string ⟨f.name.toArray⟩)/\w'.cell? ⟨w.heap.size,1,none⟩=some (.slice A1 f.params.length d1)/\w'.cell? ⟨w.heap.size,2,none⟩=some (.slice A2 f.bk9.length d2)/\w'.cell? ⟨w2.heap.size,0,none⟩=some (.slice (some ⟨S,0,none⟩) f.bk9.length f.bk9.length)/\w'.cell? ⟨w2.heap.size,1,none⟩=some (.slice (some ⟨S2,0,none⟩) f.bk9.length f.bk9.length))
   (first|exact⟨y1 0,y1 1,y1 2,y2 0,y2 1⟩|exact⟨v1 0,v1 1,v1 2,v2 0,v2 1⟩|go_keep)
   (first|(go_at_call 88;refine (htree _ ?_).mono ?_;(· repeat (first|exact Lb _ _|refine Y4 ?_|refine Zd ?_ _));rintro e w4 ⟨O,order,o,rfl,hO,hblk,hR,hT,hx,hb4⟩;have z1:=(hb4.block w.heap.size (by simp;omega)).trans (by first|exact x1|exact Zc x1 _);have z2:=(hb4.block w2.heap.size (by simp;omega)).trans (by first|exact x2|exact Zc x2 _);obtain⟨v1,_⟩:=Za z1;obtain⟨v2,_⟩:=Za z2;have Hblk:=hid hblk;have HR:=hid hR;have HT:=hid hT;have Hx:=hid hx;have Hb4:=hid hb4;clear z1 z2 hblk hR hT hx hb4))
  all_goals (go_wp2_with fail;go_meet)
  ·have hs4:=Hb4.out.size;simp at hs4 hO;refine⟨w4.heap.size+1,O,w4.heap.size,order,o,rfl,hid (SP.start hB Hb3.out ?_ x1 Hh.out HG.out HG2.out ?_ HR.out HT.out Hx.out ?_ ?_ (by omega) ?_ (by omega) (by omega) (by omega) (by omega) (by omega) Ho1.out Ho2.out)⟩
   ·have h4:Below w3.heap.size w3 w4:=(Zk (Y4 (Lb w3 none))).trans Hb4.out;exact (h4.alloc (by omega) _).alloc (by simp;omega) _
   ·exact Zc (Zc Hblk.out _) _
   ·rw[Zr];have h9:=fun ob=>La (w4.alloc (Z7 encS Qe [])) ob
    simp only[World.size_alloc] at h9;exact h9 _
   ·exact Zc (La w4 _) _
   ·have:=Ze Hblk.out;omega
  ·have hs4:=Hb4.out.size;simp at hs4 hO;have hm4:=(Hb4.out.block w3.heap.size (by simp)).trans (show ((w3.alloc (Z7 encS Qe [])).drew).heap[w3.heap.size]?=_ from La w3 _);refine⟨w4.heap.size,O,w3.heap.size,order,o,rfl,hid (SP.start hB Hb3.out ?_ x1 Hh.out HG.out HG2.out ?_ HR.out HT.out Hx.out ?_ ?_ (by omega) (by omega) (by omega) (by omega) (by omega) (by omega) (by omega) Ho1.out Ho2.out)⟩
   ·have h4:Below w3.heap.size w3 w4:=(Zk (Y4 (Lc w3 _ none))).trans (Hb4.out.mono (by simp));exact h4.alloc (by omega) _
   ·exact Zc Hblk.out _
   ·rw[Zr];exact La w4 _
   ·exact Zc hm4 _
 case rest=>
  obtain⟨b,O,M,order,o,rfl,hI⟩:=hcut;obtain⟨y1,_⟩:=Za hI.out.f0;have z1:wc.cell? ⟨w.heap.size,1,none⟩=some (.slice A1 f.params.length d1):=y1 1;clear x1 x2 htree HG HG2 Hb3;clear y1;go_wp2_with fail;go_loopw [28] (fun s8 wr=>∃ k:Nat,k<=f.params.length/\s8=.int .i64 k/\Hid (SP w B w3.heap.size b f A1 d1 A2 d2 S S2 O M order o (Uc (f.params.take k)) wr)) (fun s8 _=>f.params.length-(intOf s8).toNat)
  case atStart=>exact⟨0,Ln _,rfl,hI⟩
  case round=>
   obtain⟨k,hkl,rfl,hJ⟩:=hrel;clear hI z1;obtain⟨j1,_⟩:=Za hJ.out.blk;have e6:wr.cell? ⟨b,6,none⟩=some (.map (some M)):=j1 6
   by_cases hl:k<f.params.length
   ·obtain⟨s,b7,off7,hs,rfl,hb7,hr7⟩:=HP.out.at1 hl;have c7:=cur hJ.out.low (by omega) hr7.1;have hrun:=V5 (P:=Tryz.prog) (Zbr Tryz.underlying9) Tryz.underlying147 hJ.out.map s ((-1:Int),0);have hnext:=hJ.out.put (m':=Yz (Uc (f.params.take k)) s (-1,0)) hB;rw[<-Zdm hs] at hrun hnext;simp only[encS,Qe] at hrun;rw[show ((0:Nat):Int)=0 from rfl] at hrun;have Hnext:=hid hnext;clear hnext hr7 j1 hs;go_wp2_with fail;go_roundw
    case rel=>exact⟨k+1,by omega,by go_num,Hnext⟩
    case measure=>simp[intOf];omega
   ·have hk:k=f.params.length:=by omega
    subst hk;rw[List.take_length] at hJ;obtain⟨y1,_⟩:=Za hJ.out.f0;have z2:wr.cell? ⟨w.heap.size,2,none⟩=some (.slice A2 f.bk9.length d2):=y1 2;clear j1 y1 e6;go_wp2_with fail;go_loopw [42] (fun s8 wr=>∃ k:Nat,k<=f.bk9.length/\s8=.int .i64 k/\Hid (SP w B w3.heap.size b f A1 d1 A2 d2 S S2 O M order o (Vw (f.bk9.take k) (Uc f.params)) wr)) (fun s8 _=>f.bk9.length-(intOf s8).toNat)
    case atStart=>exact⟨0,Ln _,rfl,hJ⟩
    case round=>
     obtain⟨k,hkl,rfl,hI⟩:=hrel;clear hJ z2
     by_cases hl:k<f.bk9.length
     ·obtain⟨y,b1,off1,hy,rfl,hbB1,hr1⟩:=HA.out.at_ hl;obtain⟨A5,d5,hyy,m5,e0,e1⟩:=Yg hr1;have hlow:=hI.out.low;have hbn1:b1≠wr.heap.size:=by have:=hlow.size;omega
      have hbl1:b1<wr.heap.size:=by have:=hlow.size;omega
      replace e0:=cur hlow (by omega) e0;replace e1:=cur hlow (by omega) e1;have Hyy:=hid hyy;have Hy:=hid hy;have h9:=hid (hI.out.grow (Lc wr (.cells #[.string ⟨y.label.toArray⟩,.slice A5 y.code.length d5] 39) none) hB);clear hr1 hy hyy hlow;go_wp2_with fail;go_loopw [50] (fun s8 wr=>∃ j:Nat,j<=y.code.length/\s8=.int .i64 j/\Hid (SP w B w3.heap.size b f A1 d1 (some ⟨b1,off1,none⟩) d2 S S2 O M order o (X5 k (y.code.take j) (Vw (f.bk9.take k) (Uc f.params))) wr)) (fun s8 _=>y.code.length-(intOf s8).toNat)
      case atStart=>exact⟨0,Ln _,rfl,h9⟩
      case round=>
       obtain⟨j,hjl,rfl,hJ⟩:=hrel;clear h9 hI e0 e1 hbn1 hbl1
       by_cases hl2:j<y.code.length
       ·obtain⟨z,b3,off3,hz,rfl,hbB3,hr3⟩:=Hyy.out.code.at_ hl2;obtain⟨A6,d6,A7,d7,hzz,m6,m7,g0,g1,g2,g3,g4,g5,g6,g7⟩:=Yw hr3;have hlow:=hJ.out.low;have hbn3:b3≠wr.heap.size:=by have:=hlow.size;omega
        have hbl3:b3<wr.heap.size:=by have:=hlow.size;omega
        replace g0:=cur hlow (by omega) g0;replace g1:=cur hlow (by omega) g1;replace g2:=cur hlow (by omega) g2;replace g3:=cur hlow (by omega) g3;replace g4:=cur hlow (by omega) g4;replace g5:=cur hlow (by omega) g5;replace g6:=cur hlow (by omega) g6;replace g7:=cur hlow (by omega) g7;have Hz:=hid hz;have hN:=La wr (.cells #[.int .u8 z.op,.string ⟨z.dst.toArray⟩,.string ⟨z.a.toArray⟩,.string ⟨z.b.toArray⟩,.int .i64 z.n,.string ⟨z.fn.toArray⟩,.slice A6 z.args.length d6,.slice A7 z.lb9.length d7] 25);have i1:(wr.alloc (.cells #[.int .u8 z.op,.string ⟨z.dst.toArray⟩,.string ⟨z.a.toArray⟩,.string ⟨z.b.toArray⟩,.int .i64 z.n,.string ⟨z.fn.toArray⟩,.slice A6 z.args.length d6,.slice A7 z.lb9.length d7] 25)).cell? ⟨wr.heap.size,1,none⟩=some (.string ⟨z.dst.toArray⟩):=(Za hN).1 1;have h10:=hJ.out.grow (Lc wr (.cells #[.int .u8 z.op,.string ⟨z.dst.toArray⟩,.string ⟨z.a.toArray⟩,.string ⟨z.b.toArray⟩,.int .i64 z.n,.string ⟨z.fn.toArray⟩,.slice A6 z.args.length d6,.slice A7 z.lb9.length d7] 25) none) hB;have H10:=hid h10;clear hr3 hz hzz hlow hN h10 hJ;go_upto_region 14 with (fail)
        obtain⟨W,hW⟩:∃ W:World,W=wr.alloc (.cells #[.int .u8 z.op,.string ⟨z.dst.toArray⟩,.string ⟨z.a.toArray⟩,.string ⟨z.b.toArray⟩,.int .i64 z.n,.string ⟨z.fn.toArray⟩,.slice A6 z.args.length d6,.slice A7 z.lb9.length d7] 25):=⟨_,rfl⟩
        have hWs:W.heap.size=wr.heap.size+1:=by rw[hW];simp
        rw[<-hW] at H10 i1;rw[<-hW];clear hW g0 g1 g2 g3 g4 g5 g6 g7 hbn3 hbl3;have e6:W.cell? ⟨b,6,none⟩=some (.map (some M)):=(Za H10.out.blk).1 6;have H11:=hid (H10.out.grow (Y4 (Lb W none)) hB);have hrun:=V5 (P:=Tryz.prog) (Zbr Tryz.underlying9) Tryz.underlying147 H11.out.map z.dst ((k:Int),j);have hnext:=H11.out.put (m':=Yz (X5 k (y.code.take j) (Vw (f.bk9.take k) (Uc f.params))) z.dst ((k:Int),j)) hB;rw[<-K8 Hz.out] at hrun hnext;simp only[encS,Qe] at hrun;have Hnext:=hid hnext;clear hnext H10 H11;go_region
        all_goals go_wp2
        all_goals go_roundw
        case rel=>exact⟨j+1,by omega,by go_num,Hnext⟩
        case measure=>simp[intOf];omega
       ·have hj:j=y.code.length:=by omega
        subst hj;rw[List.take_length,<-K7 Hy.out] at hJ;go_wp2;go_roundw
        case rel=>exact⟨k+1,by omega,by go_num,hJ⟩
        case measure=>simp[intOf];omega
     ·have hk:k=f.bk9.length:=by omega
      subst hk;rw[List.take_length] at hI;go_wp2;go_ret;exact⟨b,rfl,hI.out.done hB Hok.out,hI.out.b5,hI.out.low⟩
end

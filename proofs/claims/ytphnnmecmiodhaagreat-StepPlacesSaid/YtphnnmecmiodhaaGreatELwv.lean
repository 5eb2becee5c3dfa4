/- On every walk what is used was defined ahead. No condition. -/
import Derived.Test.YtphnnmecmiodhaaGreatESnp
set_option linter.all false
namespace Go.Proofs.YtphnnmecmiodhaaGreat
def Zfb (f:GFun) (s:Str) (p:Int×Nat):Prop:=(p.1= -1/\s∈f.params)\/∃ (c:Nat) (y:GBlk) (x:GIns),p.1=c/\f.bk9[c]?=some y/\y.code[p.2]?=some x/\x.dst=s
theorem Zlh (f:GFun):∀ (k:Nat) (s:Str) (q:Int×Nat),k<=f.params.length->Z6 (Uc (f.params.take k)) s=some q->Zfb f s q:=by
 intro k
 induction k with
 |zero=>intro s q _ h;simp[Uc,Z6] at h
 |succ k ih=>
  intro s q hk h;rw[Zdm (List.getElem?_eq_getElem hk),Xj] at h
  split at h
  ·rename_i e
   cases h
   exact .inl ⟨rfl,by rw[eq_of_beq e];exact List.getElem_mem hk⟩
  ·exact ih s q (by omega) h
theorem Zcq (f:GFun) {s:Str} {q:Int×Nat} (h:Z6 (Kt f) s=some q):Zfb f s q:=by
 have inner:∀ (b:Nat) (y:GBlk) (m:Defs),f.bk9[b]?=some y->(∀ s q,Z6 m s=some q->Zfb f s q)->∀ i,i<=y.code.length->∀ s q,Z6 (X5 b (y.code.take i) m) s=some q->Zfb f s q:=by
  intro b y m hy hm i
  induction i with
  |zero=>intro _ s q h;exact hm s q (by simpa [X5] using h)
  |succ i ih=>
   intro hi s q h;rw[K8 (List.getElem?_eq_getElem hi),Xj] at h
   split at h
   ·rename_i e
    cases h
    exact .inr ⟨b,y,y.code[i],rfl,hy,Ld hi,(eq_of_beq e).symm⟩
   ·exact ih (by omega) s q h
 have outer:∀ k,k<=f.bk9.length->∀ s q,Z6 (Vw (f.bk9.take k) (Uc f.params)) s=some q->Zfb f s q:=by
  intro k
  induction k with
  |zero=>
   intro _ s q h;refine Zlh f f.params.length s q (Lf _) ?_;rw[List.take_length];simpa [Vw] using h
  |succ k ih=>
   intro hk s q h;rw[K7 (List.getElem?_eq_getElem hk)] at h;have:=inner k f.bk9[k] _ (Ld hk) (ih (by omega)) f.bk9[k].code.length (Lf _) s q;rw[List.take_length] at this;exact this h
 have:=outer f.bk9.length (Lf _) s q;rw[List.take_length] at this;exact this h
theorem Zff {m:Defs} {t s:Str} {p:Int×Nat} (h:∃ q,Z6 m s=some q):∃ q,Z6 (Yz m t p) s=some q:=by
 rw[Xj]
 split
 ·exact⟨_,rfl⟩
 ·exact h
theorem Zaj {b:Nat} {s:Str}:∀ (l:List GIns) (k:Nat) (m:Defs),(∃ q,Z6 m s=some q)->∃ q,Z6 ((l.zipIdx k).foldl (fun m p=>Yz m p.1.dst ((b:Int),p.2)) m) s=some q:=by
 intro l
 induction l with
 |nil=>intro k m h;exact h
 |cons x l ih=>intro k m h;rw[List.zipIdx_cons,List.foldl_cons];exact ih _ _ (Zff h)
theorem Zlg {b:Nat} {x:GIns}:∀ (l:List GIns) (k:Nat) (m:Defs),x∈l->∃ q,Z6 ((l.zipIdx k).foldl (fun m p=>Yz m p.1.dst ((b:Int),p.2)) m) x.dst=some q:=by
 intro l
 induction l with
 |nil=>intro k m h;cases h
 |cons y l ih=>
  intro k m h;rw[List.zipIdx_cons,List.foldl_cons]
  rcases List.mem_cons.1 h with rfl|h
  ·exact Zaj l _ _ ⟨_,by rw[Xj,if_pos (by simp)]⟩
  ·exact ih _ _ h
theorem Zai {s:Str}:∀ (l:List GBlk) (k:Nat) (m:Defs),(∃ q,Z6 m s=some q)->∃ q,Z6 ((l.zipIdx k).foldl (fun m p=>X5 p.2 p.1.code m) m) s=some q:=by
 intro l
 induction l with
 |nil=>intro k m h;exact h
 |cons x l ih=>intro k m h;rw[List.zipIdx_cons,List.foldl_cons];exact ih _ _ (Zaj _ _ _ h)
theorem Zlf {x:GIns}:∀ (l:List GBlk) (k:Nat) (m:Defs),(∃ y∈l,x∈y.code)->∃ q,Z6 ((l.zipIdx k).foldl (fun m p=>X5 p.2 p.1.code m) m) x.dst=some q:=by
 intro l
 induction l with
 |nil=>rintro k m ⟨y,h,_⟩;cases h
 |cons z l ih=>
  rintro k m ⟨y,h,hx⟩;rw[List.zipIdx_cons,List.foldl_cons]
  rcases List.mem_cons.1 h with rfl|h
  ·exact Zai l _ _ (Zlg _ _ _ hx)
  ·exact ih _ _ ⟨y,h,hx⟩
theorem Znx {s:Str}:∀ (l:List Str) (m:Defs),(s∈l\/∃ q,Z6 m s=some q)->∃ q,Z6 (l.foldl (fun m s=>Yz m s (-1,0)) m) s=some q:=by
 intro l
 induction l with
 |nil=>
  rintro m (h|h)
  ·cases h
  ·exact h
 |cons t l ih=>
  rintro m (h|h)
  ·rcases List.mem_cons.1 h with rfl|h
   ·exact ih _ (.inr ⟨_,by rw[Xj,if_pos (by simp)]⟩)
   ·exact ih _ (.inl h)
  ·exact ih _ (.inr (Zff h))
theorem Zij (f:GFun) {s:Str} (h:s∈f.params\/s∈Vb f.bk9):∃ q,Z6 (Kt f) s=some q:=by
 rcases h with h|h
 ·exact Zai f.bk9 0 _ (Znx f.params [] (.inl h))
 ·unfold Vb Qd at h;obtain⟨y,hy,h⟩:=List.mem_flatMap.1 h;obtain⟨x,hx,rfl⟩:=List.mem_map.1 h;exact Zlf f.bk9 0 _ ⟨y,hy,hx⟩
structure OnWalk (f:GFun) (vs:List Nat) (k:Nat):Prop where
 av:∀ d,d∉vs->d≠k->PathAv (Zv f.bk9) 0 d k
 lt:k<f.bk9.length
theorem OnWalk.start (f:GFun) (h:0<f.bk9.length):OnWalk f [] 0:=⟨fun d _ hd=>.start (fun e=>hd e.symm),h⟩
theorem OnWalk.next {f:GFun} {vs:List Nat} {k c:Nat} (h:OnWalk f vs k) (hc:c∈row (Zv f.bk9) k) (hl:c<f.bk9.length):OnWalk f (vs++[k]) c where
 av:=fun d hd hne=>by
  have h1:d∉vs:=fun e=>hd (List.mem_append_left _ e)
  have h2:d≠k:=fun e=>hd (by simp[e])
  exact .step (h.av d h1 h2) hc (fun e=>hne e.symm)
 lt:=hl
def Defd (f:GFun) (vs:List Nat) (D:Str->Prop):Prop:=D nought/\(∀ s∈f.params,D s)/\∀ v∈vs,∀ y,f.bk9[v]?=some y->∀ x∈y.code,x.dst≠[]->D x.dst
theorem Zcp {f:GFun} {s:Str} {q:Int×Nat} (h:Z6 (Kt f) s=some q):Yy f s=q:=by unfold Yy;rw[h];rfl
theorem Zll {g:Gph} {a b:Nat}:Zar g a b=true↔Path g 0 b/\Zah g 0 a b:=by simp only[Zar,decide_eq_true_eq]
theorem Zre {f:GFun} {vs:List Nat} {k:Nat} {D:Str->Prop} {s:Str} (hw:∀ d,d∉vs->PathAv (Zv f.bk9) 0 d k) (hD:Defd f vs D) (hs:s≠[]) (hq:∃ q,Z6 (Kt f) s=some q) (h:Xk f s k=true):D s:=by
 obtain⟨q,hq⟩:=hq;unfold Xk at h;rw[Zcp hq] at h
 by_cases hn:s=nought
 ·rw[hn];exact hD.1
 ·rcases Zcq f hq with ⟨_,hp⟩|⟨c,y,x,hc,hy,hx,hd⟩
  ·exact hD.2.1 s hp
  ·have h1:¬ q.1<0:=by omega
   have h2:q.1.toNat=c:=by omega
   rw[h2] at h;have h3:Zar (Zv f.bk9) c k=true:=by
    simpa [hn,h1] using h
   rw[Zll] at h3;have hcv:c∈vs:=Classical.byContradiction fun e=>h3.2 (hw c e)
   have:=hD.2.2 c hcv y hy x (Ll hx) (by rw[hd];exact hs)
   rwa [hd] at this
theorem Zqy {p:GProg} (hN:NOk p) (hS:SOk p) {i:Nat} {f:GFun} (hf:p[i]?=some f) {vs:List Nat} {k j:Nat} {y:GBlk} {x:GIns} {D:Str->Prop} (hW:OnWalk f vs k) (hD:Defd f vs D)
  (hy:f.bk9[k]?=some y) (hx:y.code[j]?=some x) (h6:x.op≠6) (hcode:∀ z∈y.code.take j,z.dst≠[]->D z.dst):∀ s∈Kj x,D s:=by
 intro s hs;obtain⟨hm,hne⟩:=List.mem_filter.1 hs;have hs0:s≠[]:=fun e=>by rw[e] at hne;simp at hne
 have hsn:s≠nought:=fun e=>by rw[e] at hne;simp at hne
 have h1:V7 f (X6 f)=none:=hS.rule (r:=20) (by decide) hf;have h2:=Uy h1 hy hx;unfold X6 at h2;rw[if_neg h6,List.any_eq_false] at h2;have h3:=h2 s hs;simp only[Bool.not_eq_true',Bool.not_eq_false] at h3;have h4:=Zl (show Zda p=none from hN 16 (by omega) (by omega)) hf;have h5:=Zl (Zl (show Zq f.bk9 (nvB (Xg f) i)=none from h4) hy) hx;unfold nvC at h5
 split at h5
 ·cases h5
 ·rename_i h7
  have h8:s∈Xg f:=by
   have h9:((x.a::x.b::x.args).any fun s=> !(Xg f).contains s)=false:=by simpa using h7
   have h10:=List.any_eq_false.1 h9 s hm;simpa using h10
  simp only[Xg,List.mem_cons,List.mem_append] at h8;have hq:∃ q,Z6 (Kt f) s=some q:=by
   rcases h8 with h8|h8|h8
   ·exact absurd h8 hs0
   ·exact absurd h8 hsn
   ·exact Zij f h8
  obtain⟨q,hq⟩:=hq;unfold atB at h3;rw[Zcp hq] at h3
  by_cases hk:q.1=k
  ·rw[if_pos hk,decide_eq_true_eq] at h3
   rcases Zcq f hq with ⟨h9,hp⟩|⟨c,y',x',hc,hy',hx',hd⟩
   ·exact hD.2.1 s hp
   ·have hck:c=k:=by omega
    subst hck;rw[hy] at hy'
    cases hy'
    have:x'∈y.code.take j:=by
     rw[List.mem_iff_getElem?];exact⟨q.2,by rw[List.getElem?_take_of_lt h3];exact hx'⟩
    have:=hcode x' this (by rw[hd];exact hs0)
    rwa [hd] at this
  ·rw[if_neg hk] at h3
   rcases Zcq f hq with ⟨h9,hp⟩|⟨c,y',x',hc,hy',hx',hd⟩
   ·exact hD.2.1 s hp
   ·unfold Xk at h3;rw[Zcp hq] at h3;have h1:¬ q.1<0:=by omega
    have h2:q.1.toNat=c:=by omega
    rw[h2] at h3;have h10:Zar (Zv f.bk9) c k=true:=by simpa [hsn,h1] using h3
    rw[Zll] at h10;have hcv:c∈vs:=Classical.byContradiction fun e=>h10.2 (hW.av c e (fun e2=>hk (by rw[hc,e2])))
    have:=hD.2.2 c hcv y' hy' x' (Ll hx') (by rw[hd];exact hs0)
    rwa [hd] at this
theorem Zqi {p:GProg} (hN:NOk p) {i:Nat} {f:GFun} (hf:p[i]?=some f) {a b:Nat} (ha:a<f.bk9.length) (hb:b<f.bk9.length) (h:Yo f.bk9 a=Yo f.bk9 b):a=b:=by
 have key:∀ a b,a<b->b<f.bk9.length->Yo f.bk9 a≠Yo f.bk9 b:=by
  intro a b hab hb e;have hy:f.bk9[b]?=some f.bk9[b]:=Ld hb;have h1:=Zl (show U8 p=none from hN 7 (by omega) (by omega)) hf;have h2:=Zl (show Zq f.bk9 (tlB i f.bk9)=none from h1) hy;unfold tlB at h2;have ha:f.bk9[a]?=some f.bk9[a]:=Ld (by omega);have hm:f.bk9[b].label∈(f.bk9.take b).map (·.label):=by
   have e2:f.bk9[a].label=f.bk9[b].label:=by simpa [Yo,ha,hy] using e
   rw[<-e2];refine List.mem_map.2 ⟨f.bk9[a],?_,rfl⟩;rw[List.mem_iff_getElem?];exact⟨a,by rw[List.getElem?_take_of_lt hab];exact ha⟩
  rw[if_pos (by simpa using hm)] at h2
  cases h2
 rcases Nat.lt_trichotomy a b with h1|h1|h1
 ·exact absurd h (key a b h1 hb)
 ·exact h1
 ·exact absurd h.symm (key b a h1 ha)
theorem Zrl {l:List Nat} (h:l.Pairwise (·<·)) {a:Nat} (ha:a∈l):l.countP (fun x=>x == a)=1:=by
 induction l with
 |nil=>cases ha
 |cons x l ih=>
  obtain⟨h1,h2⟩:=List.pairwise_cons.1 h;rw[List.countP_cons]
  rcases List.mem_cons.1 ha with rfl|ha
  ·have:l.countP (fun x=>x == a)=0:=by
    rw[List.countP_eq_zero];intro y hy;have:=h1 y hy;simp;omega
   rw[this];simp
  ·have hne:¬ x=a:=by have:=h1 a ha;omega
   rw[ih h2 ha];simp[hne]
theorem Zqq {p:GProg} (hN:NOk p) (hS:SOk p) {i:Nat} {f:GFun} (hf:p[i]?=some f) {vs:List Nat} {fr k j:Nat} {y:GBlk} {x:GIns} {D:Str->Prop} (hfr:fr∈vs) (hfl:fr<f.bk9.length)
  (hw:∀ d,d∉vs->PathAv (Zv f.bk9) 0 d fr) (hD:Defd f vs D) (hk:k∈row (Zv f.bk9) fr) (hy:f.bk9[k]?=some y) (hx:y.code[j]?=some x) (h6:x.op=6):
  (x.lb9.countP fun s=>s == Yo f.bk9 fr)=1/\∀ (q:Nat) (a:Str),x.lb9[q]?=some (Yo f.bk9 fr)->x.args[q]?=some a->D a:=by
 have hgl:(Zv f.bk9).length=f.bk9.length:=Zr _;have hkl:k<f.bk9.length:=(Le hy).1;constructor
 ·have h1:V7 f (Zcz f)=none:=hS.rule (r:=19) (by decide) hf;have h2:=Uy h1 hy hx;unfold Zcz at h2;rw[h6] at h2;have h3:Qf (Zni f k)=Qf x.lb9:=by simpa using h2
  have hp:(Zni f k).Perm x.lb9:=((List.mergeSort_perm _ _).symm.trans (by unfold Qf at h3;rw[h3])).trans (List.mergeSort_perm _ _);rw[<-hp.countP_eq];have hw2:Zni f k=(row (Xx (Zv f.bk9)) k).map (Yo f.bk9):=rfl;rw[hw2,List.countP_map];have hrow:=((GOk.back (Zv f.bk9) (by rw[hgl];exact (hN.fok hf).of.len)).row k)
  have hmem:∀ q,q∈row (Xx (Zv f.bk9)) k↔q<f.bk9.length/\k∈row (Zv f.bk9) q:=fun q=>by
   have:=Ziu (g:=Zv f.bk9) (k:=k) (i:=q) (by rw[hgl];exact hkl)
   rwa [hgl] at this
  have e:(row (Xx (Zv f.bk9)) k).countP ((fun s=>s == Yo f.bk9 fr)∘Yo f.bk9)=(row (Xx (Zv f.bk9)) k).countP (fun q=>q == fr):=by
   refine List.countP_congr fun q hq=>?_
   have hq2:=((hmem q).1 hq).1;simp only[Function.comp_apply,beq_iff_eq];exact⟨fun e=>Zqi hN hf hq2 hfl e,fun e=>by rw[e]⟩
  rw[e];exact Zrl hrow.1 ((hmem fr).2 ⟨hfl,hk⟩)
 ·intro q a hq ha;have h1:V7 f (X6 f)=none:=hS.rule (r:=20) (by decide) hf;have h2:=Uy h1 hy hx;unfold X6 at h2;rw[if_pos h6] at h2;unfold Zba at h2;rw[List.any_eq_false] at h2;have hql:=(Le ha).1;have h3:=h2 q (by simpa using hql);rw[ha,hq] at h3;simp only[Option.getD_some,Bool.not_eq_true',Bool.not_eq_false] at h3;have ⟨c,hc⟩:∃ c,Yd f.bk9 (Yo f.bk9 fr)=some c:=hN.lb9 hf hy hx _ (Ll hq);have hcf:c=fr:=Zqi hN hf (V9 hc) hfl (Zax hc);rw[hc,Option.getD_some,hcf] at h3;have hmem:a∈x.args:=Ll ha;have h4:=Zl (show Zda p=none from hN 16 (by omega) (by omega)) hf;have h5:=Zl (Zl (show Zq f.bk9 (nvB (Xg f) i)=none from h4) hy) hx;unfold nvC at h5;have h8:a∈Xg f:=by
   by_cases h9:((x.a::x.b::x.args).any fun s=> !(Xg f).contains s)=true
   ·rw[if_pos h9] at h5;cases h5
   ·have h11:((x.a::x.b::x.args).any fun s=> !(Xg f).contains s)=false:=by simpa using h9
    have h10:=List.any_eq_false.1 h11 a (List.mem_cons_of_mem _ (List.mem_cons_of_mem _ hmem));simpa using h10
  have ha0:a≠[]:=by
   have g1:=Zl (show Vp p=none from hN 2 (by omega) (by omega)) hf;unfold bnF at g1
   split at g1
   ·cases g1
   ·have g2:=Zl g1 hy;unfold bnB at g2
    split at g2
    ·cases g2
    ·have g3:=Zl g2 hx;unfold bnC at g3
     split at g3
     ·cases g3
     ·rename_i g4
      unfold Yn at g4;rw[h6] at g4;intro e;rw[e] at hmem
      apply g4
      have:x.args.contains []=true:=by simpa using hmem
      simp[Ym,Y0,hmem]
  simp only[Xg,List.mem_cons,List.mem_append] at h8
  by_cases han:a=nought
  ·rw[han];exact hD.1
  ·have hqd:∃ q,Z6 (Kt f) a=some q:=by
    rcases h8 with h8|h8|h8
    ·exact absurd h8 ha0
    ·exact absurd h8 han
    ·exact Zij f h8
   exact Zre hw hD ha0 hqd h3
section
open Go.RowKit Go.Shelf
def u8R:Rdr Nat:=fun w _ b o n=>w.cell? ⟨b,o,none⟩=some (.int .u8 n)/\n<256
theorem u8R.keeps:Qs u8R:=⟨fun hk hb h=>⟨(hk _ hb).trans h.1,h.2⟩,fun _ h=>h⟩
def Dm (m:List (Str×Bool)) (s:Str):Prop:=Z6 m s=some true
theorem Dm.set {m:List (Str×Bool)} {s t:Str} (h:Dm m s\/s=t):Dm (Yz m t true) s:=by
 unfold Dm at*
 rw[Xj]
 rcases h with h|h
 ·split
  ·rfl
  ·exact h
 ·rw[if_pos (by simp[h])]
structure WM (w:World) (M FB:Nat) (f:GFun) (A1:Option Addr) (d1:Nat) (A2:Option Addr) (d2:Nat) (m:List (Str×Bool)) (wr:World):Prop where
 low:Below w.heap.size w wr
 map:wr.heap[M]?=some (Z7 encS Value.bool m)
 fb:wr.heap[FB]?=some (.cells #[.string ⟨f.name.toArray⟩,.slice A1 f.params.length d1,.slice A2 f.bk9.length d2] 37 (0,0))
 l1:w.heap.size<=M
 l2:w.heap.size<=FB
 l3:M≠FB
theorem WM.grow {w:World} {M FB:Nat} {f:GFun} {A1:Option Addr} {d1:Nat} {A2:Option Addr} {d2:Nat} {m:List (Str×Bool)} {wr wr':World} {row:Option Nat} (h:WM w M FB f A1 d1 A2 d2 m wr) (hg:wr.grownBy wr' row) (hr:∀ r,row=some r->M<r/\FB<r):WM w M FB f A1 d1 A2 d2 m wr' where
 low:=Z1 h.low hg h.low.size (fun r e=>by have:=(hr r e).1;have:=h.l1;omega)
 map:=(hg.block _ (Ze h.map) (fun e=>by have:=(hr _ e.symm).1;omega)).trans h.map
 fb:=(hg.block _ (Ze h.fb) (fun e=>by have:=(hr _ e.symm).2;omega)).trans h.fb
 l1:=h.l1
 l2:=h.l2
 l3:=h.l3
theorem WM.put {w:World} {M FB:Nat} {f:GFun} {A1:Option Addr} {d1:Nat} {A2:Option Addr} {d2:Nat} {m m':List (Str×Bool)} {wr:World} (h:WM w M FB f A1 d1 A2 d2 m wr):WM w M FB f A1 d1 A2 d2 m' (wr.putObj M (Z7 encS Value.bool m')) where
 low:=h.low.trans ((Turned.putObj wr M _).below (Below.refl _ wr) h.l1)
 map:=Xt h.map _
 fb:=(World.putObj_heap_other h.l3.symm).trans h.fb
 l1:=h.l1
 l2:=h.l2
 l3:=h.l3
theorem Ki {α:Type} {l:List α} {j:Nat} {x:α} (h:l[j]?=some x):l.take (j+1)=l.take j++[x]:=by rw[List.take_add_one,h];rfl
def CodeOk (l:List GIns) (j:Nat) (m:List (Str×Bool)):Prop:=(∀ z∈l.take j,z.op=6)\/((∃ z∈l.take j,z.op≠6)/\∀ z∈l.take j,z.dst≠[]->Dm m z.dst)
theorem CodeOk.zero (l:List GIns) (m:List (Str×Bool)):CodeOk l 0 m:=.inl fun z hz=>by simp at hz
theorem CodeOk.phi {l:List GIns} {j:Nat} {x:GIns} (m:List (Str×Bool)) (h:l[j]?=some x) (h6:x.op=6) (hp:∀ z∈l.take j,z.op=6):CodeOk l (j+1) m:=by
 left;intro z hz;rw[Ki h] at hz
 rcases List.mem_append.1 hz with hz|hz
 ·exact hp z hz
 ·rw[List.mem_singleton.1 hz];exact h6
theorem CodeOk.step {l:List GIns} {j:Nat} {x:GIns} {m m':List (Str×Bool)} (h:l[j]?=some x) (h6:x.op≠6) (ha:∀ z∈l.take j,z.dst≠[]->Dm m z.dst) (hm:∀ s,Dm m s->Dm m' s) (hx:x.dst≠[]->Dm m' x.dst):CodeOk l (j+1) m':=by
 right;rw[Ki h];refine⟨⟨x,by simp,h6⟩,fun z hz hd=>?_⟩
 rcases List.mem_append.1 hz with hz|hz
 ·exact hm _ (ha z hz hd)
 ·rw[List.mem_singleton.1 hz] at hd ⊢;exact hx hd
theorem CodeOk.done {l:List GIns} {m:List (Str×Bool)} (h:CodeOk l l.length m) {x:GIns} (hx:x∈l) (h6:x.op≠6):∀ z∈l,z.dst≠[]->Dm m z.dst:=by
 unfold CodeOk at h;rw[List.take_length] at h
 rcases h with h|⟨_,h⟩
 ·exact absurd (h x hx) h6
 ·exact h
theorem Dm.more {m:List (Str×Bool)} {t s:Str} (h:Dm m s):Dm (Yz m t true) s:=Dm.set (.inl h)
theorem Dm.new (m:List (Str×Bool)) (t:Str):Dm (Yz m t true) t:=Dm.set (.inr rfl)
theorem Defd.more {f:GFun} {vs:List Nat} {D D':Str->Prop} (h:Defd f vs D) (hd:∀ s,D s->D' s):Defd f vs D':=⟨hd _ h.1,fun s hs=>hd _ (h.2.1 s hs),fun v hv y hy x hx e=>hd _ (h.2.2 v hv y hy x hx e)⟩
theorem Defd.next {f:GFun} {vs:List Nat} {D:Str->Prop} {k:Nat} {y:GBlk} (h:Defd f vs D) (hy:f.bk9[k]?=some y) (hc:∀ z∈y.code,z.dst≠[]->D z.dst):Defd f (vs++[k]) D:=by
 refine⟨h.1,h.2.1,fun v hv y' hy' x hx e=>?_⟩
 rcases List.mem_append.1 hv with hv|hv
 ·exact h.2.2 v hv y' hy' x hx e
 ·rw[List.mem_singleton.1 hv,hy] at hy'
  cases hy'
  exact hc x hx e
structure Wlk (f:GFun) (vs:List Nat) (k:Nat) (fs:Str) (m:List (Str×Bool)):Prop where
 on:OnWalk f vs k
 defd:Defd f vs (Dm m)
 way:k=0\/∃ fr,fr∈vs/\fr<f.bk9.length/\(∀ d,d∉vs->PathAv (Zv f.bk9) 0 d fr)/\k∈row (Zv f.bk9) fr/\fs=Yo f.bk9 fr
theorem Wlk.more {f:GFun} {vs:List Nat} {k:Nat} {fs:Str} {m m':List (Str×Bool)} (h:Wlk f vs k fs m) (hm:∀ s,Dm m s->Dm m' s):Wlk f vs k fs m':=⟨h.on,h.defd.more hm,h.way⟩
theorem NOk.badPhi {p:GProg} (h:NOk p) {i b k:Nat} {f:GFun} {y:GBlk} {x:GIns} (hf:p[i]?=some f) (hy:f.bk9[b]?=some y) (hx:y.code[k]?=some x) (h6:x.op=6):b≠0/\∀ z∈y.code.take k,z.op=6:=by
 have h1:=Qw (show Zcb p=none from h 11 (by omega) (by omega)) hf hy hx;have hc:Vy p i b=y.code:=by simp[Vy,Zdk hf,hy]
 simp only[hc,h6,beq_self_eq_true,Bool.true_and,Bool.or_eq_false_iff,beq_eq_false_iff_ne] at h1;refine⟨h1.1,fun z hz=>?_⟩;have:=List.any_eq_false.1 h1.2 z hz;simpa using this
theorem Wlk.phi {p:GProg} (hN:NOk p) (hS:SOk p) {i:Nat} {f:GFun} (hf:p[i]?=some f) {vs:List Nat} {k j:Nat} {fs:Str} {m:List (Str×Bool)} (h:Wlk f vs k fs m) {y:GBlk} {x:GIns} (hy:f.bk9[k]?=some y) (hx:y.code[j]?=some x) (h6:x.op=6):
  (x.lb9.countP fun s=>s == fs)=1/\∀ (q:Nat) (a:Str),x.lb9[q]?=some fs->x.args[q]?=some a->Dm m a:=by
 rcases h.way with h0|⟨fr,h1,h2,h3,h4,rfl⟩
 ·exact absurd h0 (hN.badPhi hf hy hx h6).1
 ·exact Zqq hN hS hf h1 h2 h3 h.defd h4 hy hx h6
theorem Ziv {p:GProg} (hN:NOk p) {i:Nat} {f:GFun} (hf:p[i]?=some f) {k c:Nat} {y:GBlk} {s:Str} (hy:f.bk9[k]?=some y) (hs:s∈(Y7 y).lb9) (hc:Yd f.bk9 s=some c):c∈row (Zv f.bk9) k:=by
 have hne:(Y7 y).op≠14:=by
  intro h14;obtain⟨hcd,_⟩:=hN.ends hf hy;have h1:=hN.ins hf hy (V2 hcd);unfold Zm Y1 at h1;rw[h14] at h1;have h2:(Y7 y).lb9.isEmpty=false:=by
   cases h3:(Y7 y).lb9 with
   |nil=>rw[h3] at hs;cases hs
   |cons a l=>rfl
  simp[Y0,h2] at h1
 unfold row Zv;rw[List.getElem?_map,hy];simp only[Option.map_some,Option.getD_some];refine mem_formN.2 ?_;unfold J0;rw[if_neg hne];exact List.mem_map.2 ⟨s,hs,by rw[hc];rfl⟩
theorem Wlk.next {p:GProg} (hN:NOk p) (hS:SOk p) {i:Nat} {f:GFun} (hf:p[i]?=some f) {vs:List Nat} {k:Nat} {fs:Str} {m:List (Str×Bool)} (h:Wlk f vs k fs m) {y:GBlk} (hy:f.bk9[k]?=some y) (hc:CodeOk y.code y.code.length m) {s:Str} (hs:s∈(Y7 y).lb9):
  ∃ c:Nat,idxOf (fun b=>b.label == s) f.bk9=c/\0<c/\Wlk f (vs++[k]) c y.label m:=by
 obtain⟨hcd,_⟩:=hN.ends hf hy;have hx:=V2 hcd;obtain⟨c,hcc⟩:=hN.lb9 hf hy hx s hs;have hrow:=Ziv hN hf hy hs hcc;have hc0:=hS.back hN hf hrow;have h6:(Y7 y).op≠6:=by
  have:=(hN.fok hf).of.op y (Ll hy);omega
 have hall:=hc.done (Ll hx) h6;refine⟨c,by rw[Zjw,hcc],by omega,h.on.next hrow (V9 hcc),h.defd.next hy hall,.inr ⟨k,by simp,h.on.lt,fun d hd=>h.on.av d (fun e=>hd (List.mem_append_left _ e)) (fun e=>hd (by simp[e])),hrow,by simp[Yo,hy]⟩⟩
theorem Wlk.uses {p:GProg} (hN:NOk p) (hS:SOk p) {i:Nat} {f:GFun} (hf:p[i]?=some f) {vs:List Nat} {k j:Nat} {fs:Str} {m:List (Str×Bool)} (h:Wlk f vs k fs m) {y:GBlk} {x:GIns} (hy:f.bk9[k]?=some y) (hx:y.code[j]?=some x) (h6:x.op≠6) (hcode:∀ z∈y.code.take j,z.dst≠[]->Dm m z.dst):∀ s∈Kj x,Dm m s:=
 Zqy hN hS hf h.on h.defd hy hx h6 hcode
def parM (l:List Str):List (Str×Bool):=l.foldl (fun m s=>Yz m s true) (Yz [] nought true)
theorem Zmo (l:List Str):Dm (parM l) nought/\∀ s∈l,Dm (parM l) s:=by
 have key:∀ (r:List Str) (m:List (Str×Bool)),(∀ s,Dm m s->Dm (r.foldl (fun m s=>Yz m s true) m) s)/\∀ s∈r,Dm (r.foldl (fun m s=>Yz m s true) m) s:=by
  intro r
  induction r with
  |nil=>intro m;exact⟨fun s h=>h,fun s h=>by cases h⟩
  |cons x r ih=>
   intro m;refine⟨fun s h=>(ih _).1 s h.more,fun s h=>?_⟩
   rcases List.mem_cons.1 h with rfl|h
   ·exact (ih _).1 _ (Dm.new _ _)
   ·exact (ih _).2 s h
 exact⟨(key l _).1 _ (Dm.new _ _),(key l _).2⟩
theorem Wlk.start (f:GFun) (h:0<f.bk9.length):Wlk f [] 0 [] (parM f.params):=⟨.start f h,⟨(Zmo _).1,(Zmo _).2,fun v hv=>by cases hv⟩,.inl rfl⟩
end

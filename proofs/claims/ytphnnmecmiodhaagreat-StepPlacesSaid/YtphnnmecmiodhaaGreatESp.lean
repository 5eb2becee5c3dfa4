/- A run in plain data. No condition. -/
import Derived.Test.YtphnnmecmiodhaaGreatELwv
import Derived.Test.YtphnnmecmiodhaaGreatESm
import Derived.Test.YtphnnmecmiodhaaGreatEMet
set_option linter.all false
namespace Go.Proofs.YtphnnmecmiodhaaGreat
open Lib(hid)
def gact0:GAct:=⟨(0,0,0),[]⟩
def GM.top (s:GM):GAct:=s.acts.getLast?.getD gact0
def GM.setTop (s:GM) (a:GAct):GM:={ s with acts:=s.acts.dropLast++[a] }
def Yp (p:GProg) (q:GPt):GIns:=((Vy p q.1 q.2.1)[q.2.2]?).getD ⟨0,[],[],[],0,[],[],[]⟩
def GAct.has (p:GProg) (a:GAct) (s:Str):GVal:=(Z6 a.vars (vN p a.pt.1 s)).getD nilV
def GAct.put (p:GProg) (a:GAct) (s:Str) (x:GVal):GAct:=if 0<=vN p a.pt.1 s then { a with vars:=Yz a.vars (vN p a.pt.1 s) x } else a
def GAct.on (a:GAct):GAct:={ a with pt:=(a.pt.1,a.pt.2.1,a.pt.2.2+1) }
def GM.next (p:GProg) (s:GM) (dst:Str) (x:GVal) (st:Nat):GM:=if st=0 then s.setTop (s.top.put p dst x).on else { s with stop:=st }
def Zmp (p:GProg) (f:Nat):List Nat:=(((p[f]?).map (·.params)).getD []).map fun t=>(Zh p p.length).vars.idxOf (f,t)
def Zcl (p:GProg) (a:GAct) (l:List (Nat×Str)):List (Int×GVal):=l.foldl (fun m q=>Yz m (q.1:Int) (a.has p q.2)) []
def GM.enter (p:GProg) (s:GM) (f:Nat) (args:List Str):GM:=
 if 64<=s.acts.length then { s with stop:=5 }
 else { s with acts:=s.acts++[⟨(f,0,0),Zcl p s.top ((Zmp p f).zip args)⟩],ent:=(s.top.pt,f),did:=true }
def Yq (l:List GIns):List GIns:=l.takeWhile fun z=>z.op == 6
def Zbz (p:GProg) (a:GAct) (fr:Str) (z:GIns):GVal:=a.has p ((z.args[z.lb9.idxOf fr]?).getD [])
def Xr (p:GProg) (a:GAct) (l:List (GIns×GVal)):GAct:=l.foldl (fun a q=>a.put p q.1.dst q.2) a
def GAct.jump (p:GProg) (a:GAct) (l:Str):GAct:=
 let b:=(idxOf (fun y=>y.label == l) (Yx p a.pt.1)).toNat
 let ph:=Yq (Vy p a.pt.1 b)
 { Xr p a (ph.zip (ph.map (Zbz p a (Yo (Yx p a.pt.1) a.pt.2.1)))) with pt:=(a.pt.1,b,ph.length) }
def GM.jump (p:GProg) (s:GM) (l:Str):GM:=s.setTop (s.top.jump p l)
def GM.make (p:GProg) (s:GM) (dst:Str):GM:=
 if Ya s.heap+(Ua p s.top.pt).2.1<=16384 then ({ s with heap:=s.heap++[((Ua p s.top.pt).1,List.replicate (Ua p s.top.pt).2.1 nilV)] }).next p dst ⟨1,s.heap.length,0⟩ 0 else { s with stop:=6 }
def GM.store (p:GProg) (s:GM) (x v:GVal):GM:=({ s with heap:=if Yi s.heap x=0 then Uf s.heap x v else s.heap }).next p [] nilV (Yi s.heap x)
def GM.icall (p:GProg) (s:GM) (x:GVal) (args:List Str):GM:=
 if x.kind=2 then (if (Zmp p x.n).length=args.length then s.enter p x.n args else { s with stop:=4 }) else { s with stop:=2 }
def GM.pop (s:GM):GM:={ s with acts:=s.acts.dropLast }
def GM.ret (p:GProg) (s:GM) (x:GVal):GM:=if s.pop.acts.isEmpty then { s.pop with stop:=1 } else s.pop.next p (Yp p s.pop.top.pt).dst x 0
def GM.doI (p:GProg) (s:GM) (c:Bool) (i:GIns):GM:=
 if i.op=1\/i.op=2 then s.make p i.dst
 else if i.op=3 then s.next p i.dst nilV 0
 else if i.op=4 then s.next p i.dst ⟨2,0,ixK (Zy p p.length) i.fn⟩ 0
 else if i.op=5 then s.next p i.dst (s.top.has p i.a) 0
 else if i.op=7 then s.next p i.dst (V1 s.heap (s.top.has p i.a) i.n).1 (V1 s.heap (s.top.has p i.a) i.n).2
 else if i.op=8 then s.next p i.dst ((Kv s.heap (s.top.has p i.a)).getD nilV) (Yi s.heap (s.top.has p i.a))
 else if i.op=9 then s.store p (s.top.has p i.b) (s.top.has p i.a)
 else if i.op=10 then s.enter p (ixK (Zy p p.length) i.fn) i.args
 else if i.op=11 then s.icall p (s.top.has p i.a) i.args
 else if i.op=12 then s.jump p ((i.lb9[if c then 1 else 0]?).getD [])
 else if i.op=13 then s.jump p ((i.lb9[0]?).getD [])
 else if i.op=14 then s.ret p (s.top.has p i.a)
 else s
def GM.move (p:GProg) (s:GM) (c:Bool):GM:=if s.stop=0 then ({ s with did:=false }).doI p c (Yp p s.top.pt) else s
def gm0 (p:GProg):GM:=⟨[],[⟨(ixK (Zy p p.length) mainS,0,0),[]⟩],0,((0,0,0),0),false⟩
def ValOk (p:GProg) (h:GHp) (v:GVal):Prop:=v=nilV\/(v.kind=1/\(Kv h v).isSome=true)\/(v.kind=2/\v.obj=0/\v.n<p.length)
def Has (p:GProg) (a:GAct) (s:Str):Prop:=s=nought\/(Z6 a.vars (vN p a.pt.1 s)).isSome=true
structure WlkD (f:GFun) (vs:List Nat) (k:Nat) (fs:Str) (D:Str->Prop):Prop where
 on:OnWalk f vs k
 defd:Defd f vs D
 way:k=0\/∃ fr,fr∈vs/\fr<f.bk9.length/\(∀ d,d∉vs->PathAv (Zv f.bk9) 0 d fr)/\k∈row (Zv f.bk9) fr/\fs=Yo f.bk9 fr
structure ActOk (p:GProg) (h:GHp) (a:GAct):Prop where
 at_:∃ (f:GFun) (y:GBlk) (x:GIns) (vs:List Nat) (fs:Str),p[a.pt.1]?=some f/\f.bk9[a.pt.2.1]?=some y/\y.code[a.pt.2.2]?=some x/\x.op≠6/\WlkD f vs a.pt.2.1 fs (Has p a)/\∀ z∈y.code.take a.pt.2.2,z.dst≠[]->Has p a z.dst
 vals:∀ k v,Z6 a.vars k=some v->ValOk p h v/\∃ (n:Nat) (s:Str),k=n/\(Zh p p.length).vars[n]?=some (a.pt.1,s)
structure HpOk (p:GProg) (h:GHp):Prop where
 vals:∀ o∈h,∀ v∈o.2,ValOk p h v
 fld:∀ o∈h,o.1+o.2.length<=(Zh p p.length).of.length
 size:Ya h<=16384
 pos:∀ o∈h,0<o.2.length
structure GMOk (p:GProg) (s:GM):Prop where
 heap:HpOk p s.heap
 acts:∀ a∈s.acts,ActOk p s.heap a
 calls:∀ a∈s.acts.dropLast,(Yp p a.pt).op=10\/(Yp p a.pt).op=11
 depth:s.acts.length<=64
 done:s.acts=[]↔s.stop=1
 stop:s.stop<=6
theorem Qj {p:GProg} {q:GPt} {f:GFun} {y:GBlk} {x:GIns} (hf:p[q.1]?=some f) (hy:f.bk9[q.2.1]?=some y) (hx:y.code[q.2.2]?=some x):Yp p q=x:=by
 simp[Yp,Vy,Yx,hf,hy,hx]
theorem X1 {s:GM} {l:List GAct} {a:GAct} (h:s.acts=l++[a]):s.top=a:=by simp[GM.top,h]
theorem X0 {s:GM} {l:List GAct} {a:GAct} (b:GAct) (h:s.acts=l++[a]):(s.setTop b).acts=l++[b]:=by simp[GM.setTop,h]
theorem Zfc {s:GM} (h:s.acts≠[]):∃ l a,s.acts=l++[a]:=⟨s.acts.dropLast,s.acts.getLast h,(List.dropLast_concat_getLast h).symm⟩
def HpLe (h h':GHp):Prop:=∀ x,(Kv h x).isSome=true->(Kv h' x).isSome=true
theorem HpLe.refl (h:GHp):HpLe h h:=fun _ e=>e
theorem ValOk.le {p:GProg} {h h':GHp} {v:GVal} (hv:ValOk p h v) (hl:HpLe h h'):ValOk p h' v:=by
 rcases hv with e|⟨e,i⟩|e
 ·exact .inl e
 ·exact .inr (.inl ⟨e,hl v i⟩)
 ·exact .inr (.inr e)
theorem HpLe.push (h:GHp) (o:Nat×List GVal):HpLe h (h++[o]):=fun x hx=>by
 unfold Kv at*
 cases e:h[x.obj]? with
 |none=>rw[e] at hx;simp at hx
 |some o'=>
  rw[List.getElem?_append_left (List.getElem?_eq_some_iff.1 e).1];exact hx
theorem HpLe.store (h:GHp) (x v:GVal):HpLe h (Uf h x v):=fun z hz=>by
 unfold Uf
 split
 ·rename_i o ho
  have hlt:=(Le ho).1;unfold Kv at*
  rw[List.getElem?_set]
  split
  ·rename_i e
   rw[<-e,ho] at hz;simp only[Option.bind_some,List.getElem?_set] at hz ⊢
   split
   ·rename_i e2
    have:z.n<o.2.length:=by
     cases e3:o.2[z.n]? with
     |none=>rw[e3] at hz;cases hz
     |some u=>exact (Le e3).1
    rw[if_pos (by omega)];rfl
   ·exact hz
  ·exact hz
 ·exact hz
theorem HpOk.push {p:GProg} {h:GHp} (hk:HpOk p h) {b n:Nat} (hb:b+n<=(Zh p p.length).of.length) (hn:Ya h+n<=16384) (hn1:1<=n):HpOk p (h++[(b,List.replicate n nilV)]) where
 vals:=fun o ho v hv=>by
  rcases List.mem_append.1 ho with ho|ho
  ·exact (hk.vals o ho v hv).le (.push _ _)
  ·rw[List.mem_singleton.1 ho] at hv;exact .inl (List.eq_of_mem_replicate hv)
 fld:=fun o ho=>by
  rcases List.mem_append.1 ho with ho|ho
  ·exact hk.fld o ho
  ·rw[List.mem_singleton.1 ho,List.length_replicate];exact hb
 size:=by
  unfold Ya at*
  rw[List.map_append,List.sum_append];simpa using hn
 pos:=fun o ho=>by
  rcases List.mem_append.1 ho with ho|ho
  ·exact hk.pos o ho
  ·rw[List.mem_singleton.1 ho,List.length_replicate];exact hn1
theorem HpOk.store {p:GProg} {h:GHp} (hk:HpOk p h) (x:GVal) {v:GVal} (hv:ValOk p h v):HpOk p (Uf h x v):=by
 have hle:=HpLe.store h x v;unfold Uf at hle ⊢
 split at hle
 ·rename_i o ho
  have hm:=Ll ho;refine⟨fun o' ho' u hu=>?_,fun o' ho'=>?_,?_,fun o' ho'=>?_⟩
  ·rcases List.mem_or_eq_of_mem_set ho' with ho'|rfl
   ·exact (hk.vals o' ho' u hu).le hle
   ·rcases List.mem_or_eq_of_mem_set hu with hu|rfl
    ·exact (hk.vals o hm u hu).le hle
    ·exact hv.le hle
  ·rcases List.mem_or_eq_of_mem_set ho' with ho'|rfl
   ·exact hk.fld o' ho'
   ·have:=hk.fld o hm;simpa using this
  ·have:=hk.size;unfold Ya at*
   rw[List.map_set];have e:(h.map fun o=>o.2.length).set x.obj ((o.1,o.2.set x.n v):Nat×List GVal).2.length=h.map fun o=>o.2.length:=by
    apply List.ext_getElem?
    intro i;rw[List.getElem?_set]
    split
    ·rename_i e
     subst e;have hlt:=(Le ho).1;rw[if_pos (by simpa using hlt),List.getElem?_map,ho];simp
    ·rfl
   rw[e];exact this
  ·rcases List.mem_or_eq_of_mem_set ho' with ho'|rfl
   ·exact hk.pos o' ho'
   ·have:=hk.pos o hm;simpa using this
 ·exact hk
theorem HpOk.len {p:GProg} {h:GHp} (hk:HpOk p h):h.length<=Ya h:=by
 have key:∀ l:GHp,(∀ o∈l,0<o.2.length)->l.length<=Ya l:=by
  intro l
  induction l with
  |nil=>intro _;simp
  |cons x l ih=>
   intro hl;have h1:=ih fun o ho=>hl o (by simp[ho])
   have h2:=hl x (by simp);unfold Ya at h1 ⊢;simp only[List.length_cons,List.map_cons,List.sum_cons];omega
 exact key h hk.pos
def ValsOk (p:GProg) (h:GHp) (i:Nat) (l:List (Int×GVal)):Prop:=∀ k v,Z6 l k=some v->ValOk p h v/\∃ (n:Nat) (s:Str),k=n/\(Zh p p.length).vars[n]?=some (i,s)
theorem ActOk.le {p:GProg} {h h':GHp} {a:GAct} (ha:ActOk p h a) (hl:HpLe h h'):ActOk p h' a:=⟨ha.at_,fun k v e=>⟨(ha.vals k v e).1.le hl,(ha.vals k v e).2⟩⟩
theorem Zav {p:GProg} {h:GHp} {a:GAct} (ha:ActOk p h a) (s:Str):ValOk p h (a.has p s):=by
 unfold GAct.has
 cases e:Z6 a.vars (vN p a.pt.1 s) with
 |none=>exact .inl rfl
 |some v=>exact (ha.vals _ v e).1
theorem vN_at {p:GProg} {i:Nat} {s:Str} (h:0<=vN p i s):∃ n:Nat,vN p i s=n/\(Zh p p.length).vars[n]?=some (i,s):=by
 unfold vN Zag at h ⊢
 split at h
 ·rename_i h1
  rw[if_pos h1]
  split at h
  ·simp at h
  ·rename_i h2
   rw[if_neg h2]
   split at h
   ·rename_i h3
    rw[if_pos h3];have hm:=List.contains_iff_mem.1 (show (Zh p p.length).vars.contains ((i:Int).toNat,s)=true from h3);rw[Int.toNat_natCast] at hm;have hl:=List.idxOf_lt_length_iff.2 hm;refine⟨(Zh p p.length).vars.idxOf (i,s),?_,?_⟩
    ·simp only[Int.toNat_natCast];unfold ixK;rw[if_pos (List.contains_iff_mem.2 hm)]
    ·rw[List.getElem?_eq_getElem hl,List.getElem_idxOf]
   ·simp at h
 ·simp at h
theorem V3 (p:GProg) (a:GAct) (s:Str) (x:GVal):(a.put p s x).pt=a.pt:=by unfold GAct.put;split<;>rfl
theorem Has.put {p:GProg} {a:GAct} {t:Str} (h:Has p a t) (s:Str) (x:GVal):Has p (a.put p s x) t:=by
 unfold Has at*
 rw[V3]
 rcases h with h|h
 ·exact .inl h
 ·right;unfold GAct.put
  split
  ·simp only;rw[Xj]
   split
   ·rfl
   ·exact h
  ·exact h
theorem Has.new {p:GProg} {a:GAct} {s:Str} (hs:0<=vN p a.pt.1 s) (x:GVal):Has p (a.put p s x) s:=by
 right;rw[V3];unfold GAct.put;rw[if_pos hs];simp only;rw[Xj,if_pos (by simp)];rfl
theorem ValsOk.put {p:GProg} {h:GHp} {a:GAct} (hv:ValsOk p h a.pt.1 a.vars) (s:Str) {x:GVal} (hx:ValOk p h x):ValsOk p h (a.put p s x).pt.1 (a.put p s x).vars:=by
 rw[V3];unfold GAct.put
 split
 ·rename_i h0
  intro k v e;simp only at e;rw[Xj] at e
  split at e
  ·rename_i ek
   cases e
   obtain⟨n,h1,h2⟩:=vN_at h0;exact⟨hx,n,s,by rw[eq_of_beq ek,h1],h2⟩
  ·exact hv k v e
 ·exact hv
theorem WlkD.more {f:GFun} {vs:List Nat} {k:Nat} {fs:Str} {D D':Str->Prop} (h:WlkD f vs k fs D) (hd:∀ s,D s->D' s):WlkD f vs k fs D':=⟨h.on,h.defd.more hd,h.way⟩
theorem Zln {p:GProg} (hN:NOk p) {i b k:Nat} {f:GFun} {y:GBlk} {x:GIns} (hf:p[i]?=some f) (hy:f.bk9[b]?=some y) (hx:y.code[k]?=some x) (ho:x.op=9\/x.op=12\/x.op=13\/x.op=14):x.dst=[]:=by
 have h1:=hN.ins hf hy hx;unfold Zm Y1 at h1
 rcases ho with ho|ho|ho|ho<;>rw[ho] at h1<;>simp[Y0] at h1<;>simp_all
theorem ActOk.on {p:GProg} (hN:NOk p) {h:GHp} {a:GAct} (ha:ActOk p h a) (ho:Up (Yp p a.pt).op=false) {v:GVal} (hv:ValOk p h v):ActOk p h (a.put p (Yp p a.pt).dst v).on:=by
 obtain⟨f,y,x,vs,fs,hf,hy,hx,h6,hw,hd⟩:=ha.at_;rw[Qj hf hy hx] at ho ⊢;have hk:=(hN.ends hf hy).2 _ x hx;rw[ho] at hk;have hlt:=(Le hx).1;have hne:¬ (a.pt.2.2+1=y.code.length):=by simpa using hk.symm
 have hx2:y.code[a.pt.2.2+1]?=some y.code[a.pt.2.2+1]:=Ld (by omega);refine⟨⟨f,y,y.code[a.pt.2.2+1],vs,fs,?_,?_,?_,fun e=>?_,?_,?_⟩,ValsOk.put ha.vals _ hv⟩
 ·simp only[GAct.on,V3];exact hf
 ·simp only[GAct.on,V3];exact hy
 ·simp only[GAct.on,V3];exact hx2
 ·refine h6 ((hN.badPhi hf hy hx2 e).2 x ?_);rw[Ki hx];simp
 ·have:WlkD f vs a.pt.2.1 fs (Has p (a.put p x.dst v).on):=hw.more fun s hs=>Has.put hs _ _
  simpa only[GAct.on,V3] using this
 ·intro z hz hne;have hz':z∈y.code.take (a.pt.2.2+1):=by simpa only[GAct.on,V3] using hz
  rw[Ki hx] at hz';show Has p (a.put p x.dst v) z.dst
  rcases List.mem_append.1 hz' with hz'|hz'
  ·exact (hd z hz' hne).put _ _
  ·rw[List.mem_singleton.1 hz'] at hne ⊢
   rcases Zqb hN hf hy hx with h1|h1
   ·exact Has.new h1.2.1 v
   ·exact absurd h1.1 hne
theorem Zkt (p:GProg) (a:GAct):∀ (l:List (Nat×Str)) (m:List (Int×GVal)) (k:Int),((∃ q∈l,(q.1:Int)=k)\/(Z6 m k).isSome=true)->(Z6 (l.foldl (fun m q=>Yz m (q.1:Int) (a.has p q.2)) m) k).isSome=true
 |[],m,k,h=>by
  rcases h with ⟨q,hq,_⟩|h
  ·cases hq
  ·exact h
 |x::l,m,k,h=>by
  refine Zkt p a l _ k ?_
  rcases h with ⟨q,hq,e⟩|h
  ·rcases List.mem_cons.1 hq with rfl|hq
   ·right;rw[Xj,if_pos (by simp[e])];rfl
   ·exact .inl ⟨q,hq,e⟩
  ·right;rw[Xj]
   split
   ·rfl
   ·exact h
theorem Zku (p:GProg) (a:GAct):∀ (l:List (Nat×Str)) (m:List (Int×GVal)) (k:Int) (v:GVal),Z6 (l.foldl (fun m q=>Yz m (q.1:Int) (a.has p q.2)) m) k=some v->Z6 m k=some v\/∃ q∈l,k=(q.1:Int)/\v=a.has p q.2
 |[],m,k,v,h=>.inl h
 |x::l,m,k,v,h=>by
  rcases Zku p a l _ k v h with h|⟨q,hq,e⟩
  ·rw[Xj] at h
   split at h
   ·rename_i e
    cases h
    exact .inr ⟨x,by simp,eq_of_beq e,rfl⟩
   ·exact .inl h
  ·exact .inr ⟨q,by simp[hq],e⟩
theorem Zqp {p:GProg} (hN:NOk p) {g:Nat} {x:GFun} (hx:p[g]?=some x) {s:Str} (hs:s∈x.params):(g,s)∈(Zh p p.length).vars/\vN p g s=((Zh p p.length).vars.idxOf (g,s):Nat):=by
 obtain⟨j,hj,e⟩:=List.mem_iff_getElem.1 hs;have hm:=((Zvu hN hx (show j<=x.params.length by omega)).2 s (by rw[<-e];exact Ld hj)).2;refine⟨hm,?_⟩;unfold vN;rw[Zhc (List.getElem?_eq_some_iff.1 hx).1 (U0 (hN.pname hx s hs)).1 hm]
theorem Ke {p:GProg} {g:Nat} {x:GFun} (hx:p[g]?=some x):Zmp p g=x.params.map fun t=>(Zh p p.length).vars.idxOf (g,t):=by simp[Zmp,hx]
theorem ActOk.enter {p:GProg} (hN:NOk p) {h:GHp} {a:GAct} (ha:ActOk p h a) {g:Nat} {x:GFun} (hx:p[g]?=some x) {args:List Str} (hl:x.params.length=args.length):ActOk p h ⟨(g,0,0),Zcl p a ((Zmp p g).zip args)⟩:=by
 have hb:=(hN.bk9 hx).1;have hy:x.bk9[0]?=some x.bk9[0]:=Ld hb;have hc:=(hN.ends hx hy).1;have hcl:=List.length_pos_iff.2 hc;have hz:x.bk9[0].code[0]?=some x.bk9[0].code[0]:=Ld hcl;refine⟨⟨x,x.bk9[0],x.bk9[0].code[0],[],[],hx,hy,hz,fun e=>(hN.badPhi hx hy hz e).1 rfl,⟨.start x hb,⟨.inl rfl,fun s hs=>?_,fun v hv=>by cases hv⟩,.inl rfl⟩,fun z hz=>by simp at hz⟩,fun k v e=>?_⟩
 ·right;refine Zkt p a _ _ _ (.inl ?_);obtain⟨j,hj,e⟩:=List.mem_iff_getElem.1 hs;have h1:(Zmp p g)[j]?=some ((Zh p p.length).vars.idxOf (g,s)):=by rw[Ke hx,List.getElem?_map,List.getElem?_eq_getElem hj,e];rfl
  have h2:args[j]?=some (args[j]'(by omega)):=Ld _;exact⟨((Zh p p.length).vars.idxOf (g,s),args[j]'(by omega)),Ll (List.getElem?_zip_eq_some.2 ⟨h1,h2⟩),(Zqp hN hx hs).2.symm⟩
 ·rcases Zku p a _ _ k v e with h1|⟨q,hq,h1,h2⟩
  ·cases h1
  ·refine⟨by rw[h2];exact Zav ha _,q.1,?_⟩;have h3:=(List.of_mem_zip hq).1;rw[Ke hx] at h3;obtain⟨t,ht,e2⟩:=List.mem_map.1 h3;have hm:=(Zqp hN hx ht).1;refine⟨t,h1,?_⟩;rw[<-e2,List.getElem?_eq_getElem (List.idxOf_lt_length_iff.2 hm),List.getElem_idxOf]
theorem Zey:∀ (l:List GIns),∀ z∈Yq l,z.op=6/\z∈l
 |[],z,h=>by cases h
 |x::l,z,h=>by
  by_cases e:x.op=6
  ·have h4:Yq (x::l)=x::Yq l:=by simp[Yq,e]
   rw[h4] at h
   rcases List.mem_cons.1 h with rfl|h
   ·exact⟨e,by simp⟩
   ·exact⟨(Zey l z h).1,by simp[(Zey l z h).2]⟩
  ·have h4:Yq (x::l)=[]:=by simp[Yq,e]
   rw[h4] at h
   cases h
theorem Zqr:∀ (l:List GIns),(∃ z∈l,z.op≠6)->∃ x,l[(Yq l).length]?=some x/\x.op≠6/\l.take (Yq l).length=Yq l
 |[],h=>by obtain⟨z,hz,_⟩:=h;cases hz
 |z::l,h=>by
  by_cases e:z.op=6
  ·obtain⟨x,h1,h2,h3⟩:=Zqr l (by
    obtain⟨u,hu,e2⟩:=h
    rcases List.mem_cons.1 hu with rfl|hu
    ·exact absurd e e2
    ·exact⟨u,hu,e2⟩)
   have h4:Yq (z::l)=z::Yq l:=by simp[Yq,e]
   rw[h4];exact⟨x,by simpa using h1,h2,by simp[h3]⟩
  ·have h4:Yq (z::l)=[]:=by simp[Yq,e]
   rw[h4];exact⟨z,rfl,e,rfl⟩
theorem Zaa (p:GProg):∀ (l:List (GIns×GVal)) (a:GAct),(Xr p a l).pt=a.pt
 |[],a=>rfl
 |q::l,a=>(Zaa p l _).trans (V3 p a _ _)
theorem Zbc (p:GProg) {s:Str}:∀ (l:List (GIns×GVal)) (a:GAct),(Has p a s\/∃ q∈l,q.1.dst=s/\0<=vN p a.pt.1 s)->Has p (Xr p a l) s
 |[],a,h=>by
  rcases h with h|⟨q,hq,_⟩
  ·exact h
  ·cases hq
 |x::l,a,h=>by
  refine Zbc p l _ ?_
  rcases h with h|⟨q,hq,e,h0⟩
  ·exact .inl (h.put _ _)
  ·rcases List.mem_cons.1 hq with rfl|hq
   ·left;rw[<-e] at h0 ⊢;exact Has.new h0 _
   ·exact .inr ⟨q,hq,e,by rw[V3];exact h0⟩
theorem Zec {p:GProg} {h:GHp}:∀ (l:List (GIns×GVal)) (a:GAct),ValsOk p h a.pt.1 a.vars->(∀ q∈l,ValOk p h q.2)->ValsOk p h a.pt.1 (Xr p a l).vars
 |[],a,hv,_=>hv
 |x::l,a,hv,hl=>by
  have:=Zec l (a.put p x.1.dst x.2) (hv.put _ (hl x (by simp))) fun q hq=>hl q (by simp[hq])
  rw[V3] at this;exact this
theorem Zqg {p:GProg} (hN:NOk p) (hS:SOk p) {h:GHp} {a:GAct} (ha:ActOk p h a) (ho:(Yp p a.pt).op=12\/(Yp p a.pt).op=13) {l:Str} (hl:l∈(Yp p a.pt).lb9):
  ∃ (f:GFun) (y:GBlk) (c:Nat) (y2:GBlk) (x2:GIns),p[a.pt.1]?=some f/\f.bk9[a.pt.2.1]?=some y/\idxOf (fun b=>b.label == l) f.bk9=c/\f.bk9[c]?=some y2/\y2.code[(Yq y2.code).length]?=some x2/\x2.op≠6/\
   y2.code.take (Yq y2.code).length=Yq y2.code/\(∀ z∈Yq y2.code,y.label∈z.lb9/\z.args.length=z.lb9.length)/\ActOk p h (a.jump p l):=by
 obtain⟨f,y,x,vs,fs,hf,hy,hx,h6,hw,hd⟩:=ha.at_;rw[Qj hf hy hx] at ho hl;have hk:=(hN.ends hf hy).2 _ x hx;have hlt:=(Le hx).1;have hlast:a.pt.2.2+1=y.code.length:=by
  have:Up x.op=true:=by rcases ho with e|e<;>rw[e]<;>rfl
  rw[this] at hk;simpa using hk.symm
 have hxl:Y7 y=x:=by
  have h1:=V2 (hN.ends hf hy).1;rw[show y.code.length-1=a.pt.2.2 by omega,hx] at h1;injection h1 with h1
  exact h1.symm
 have hdst:x.dst=[]:=Zln hN hf hy hx (by omega);have hall:∀ z∈y.code,z.dst≠[]->Has p a z.dst:=fun z hz hne=>by
  have hz':z∈y.code.take (a.pt.2.2+1):=by rw[hlast,List.take_length];exact hz
  rw[Ki hx] at hz'
  rcases List.mem_append.1 hz' with hz'|hz'
  ·exact hd z hz' hne
  ·rw[List.mem_singleton.1 hz'] at hne;exact absurd hdst hne
 obtain⟨c,hcc⟩:=hN.lb9 hf hy hx l hl;have hrow:=Ziv hN hf hy (by rw[hxl];exact hl) hcc;have hc0:=hS.back hN hf hrow;have hcl:=V9 hcc;have hy2:f.bk9[c]?=some f.bk9[c]:=Ld hcl
 have hlp:∃ z∈f.bk9[c].code,z.op≠6:=⟨Y7 f.bk9[c],Ll (V2 (hN.ends hf hy2).1),by
  have:=(hN.fok hf).of.op f.bk9[c] (Ll hy2)
  omega⟩
 obtain⟨x2,g1,g2,g3⟩:=Zqr _ hlp;have hidx:idxOf (fun b=>b.label == l) f.bk9=(c:Int):=by rw[Zjw,hcc]
 have hon:=hw.on.next hrow hcl;have hlab:Yo f.bk9 a.pt.2.1=y.label:=by simp[Yo,hy]
 have hway:∃ fr,fr∈vs++[a.pt.2.1]/\fr<f.bk9.length/\(∀ d,d∉vs++[a.pt.2.1]->PathAv (Zv f.bk9) 0 d fr)/\c∈row (Zv f.bk9) fr/\y.label=Yo f.bk9 fr:=
  ⟨a.pt.2.1,by simp,hw.on.lt,fun d hd=>hw.on.av d (fun e=>hd (List.mem_append_left _ e)) (fun e=>hd (by simp[e])),hrow,hlab.symm⟩
 have hdf:=hw.defd.next hy hall;have hphi:∀ z∈Yq f.bk9[c].code,∃ j,f.bk9[c].code[j]?=some z/\z.op=6:=fun z hz=>by
  obtain⟨h1,h2⟩:=Zey _ z hz;obtain⟨j,hj,e⟩:=List.mem_iff_getElem.1 h2;exact⟨j,by rw[<-e];exact Ld hj,h1⟩
 refine⟨f,y,c,f.bk9[c],x2,hf,hy,hidx,hy2,g1,g2,g3,fun z hz=>?_,?_⟩
 ·obtain⟨j,hj,h6'⟩:=hphi z hz;obtain⟨fr,w1,w2,w3,w4,w5⟩:=hway;have h1:=(Zqq hN hS hf w1 w2 w3 hdf w4 hy2 hj h6').1;refine⟨?_,hN.phi hf hy2 hj h6'⟩;rw[<-w5] at h1;have h2:0<z.lb9.countP (fun s=>s == y.label):=by omega
  obtain⟨s,hs,e⟩:=List.countP_pos_iff.1 h2;rw[<-eq_of_beq e];exact hs
 ·have hbs:Yx p a.pt.1=f.bk9:=by simp[Yx,hf]
  have hco:Vy p a.pt.1 c=f.bk9[c].code:=by simp[Vy,hbs,hcl]
  unfold GAct.jump;simp only[hbs,hidx,Int.toNat_natCast,hco];refine⟨⟨f,f.bk9[c],x2,vs++[a.pt.2.1],y.label,hf,hy2,g1,g2,⟨hon,hdf.more fun s hs=>?_,.inr hway⟩,fun z hz hne=>?_⟩,?_⟩
  ·have:=Zbc p ((Yq f.bk9[c].code).zip ((Yq f.bk9[c].code).map (Zbz p a (Yo f.bk9 a.pt.2.1)))) a (s:=s) (.inl hs);unfold Has at this ⊢;rw[Zaa] at this;exact this
  ·simp only at hz;rw[g3] at hz;obtain⟨j,hj,h6'⟩:=hphi z hz;have h0:0<=vN p a.pt.1 z.dst:=by
    rcases Zqb hN hf hy2 hj with h1|h1
    ·exact h1.2.1
    ·exact absurd h1.1 hne
   obtain⟨j2,hj2,e2⟩:=List.mem_iff_getElem.1 hz;have:=Zbc p ((Yq f.bk9[c].code).zip ((Yq f.bk9[c].code).map (Zbz p a (Yo f.bk9 a.pt.2.1)))) a (s:=z.dst) (.inr ⟨(z,Zbz p a (Yo f.bk9 a.pt.2.1) z),Ll (i:=j2) (List.getElem?_zip_eq_some.2 ⟨by rw[List.getElem?_eq_getElem hj2,e2],by rw[List.getElem?_map,List.getElem?_eq_getElem hj2,e2];rfl⟩),rfl,h0⟩);unfold Has at this ⊢;rw[Zaa] at this;exact this
  ·refine Zec _ a ha.vals fun q hq=>?_
   obtain⟨z,_,e⟩:=List.mem_map.1 (List.of_mem_zip hq).2;rw[<-e];exact Zav ha _
section
def MvOk (p:GProg) (l:List GAct) (a:GAct) (s':GM):Prop:=
 (s'.did=true/\((Yp p a.pt).op=10\/(Yp p a.pt).op=11)/\s'.ent.1=a.pt/\s'.ent.2<p.length/\(s'.acts.map fun b=>b.pt.1)=(l.map fun b=>b.pt.1)++[a.pt.1,s'.ent.2]/\s'.stop=0/\(Yp p a.pt).args.length=(Zmp p s'.ent.2).length/\s'.top.pt=(s'.ent.2,0,0))\/
 (s'.did=false/\(Yp p a.pt).op=14/\(s'.acts.map fun b=>b.pt.1)=(l.map fun b=>b.pt.1))\/
 (s'.did=false/\(Yp p a.pt).op≠14/\(s'.acts.map fun b=>b.pt.1)=(l.map fun b=>b.pt.1)++[a.pt.1]/\((Yp p a.pt).op=10\/(Yp p a.pt).op=11->s'.stop≠0)/\(s'.stop=0->s'.top.pt=a.pt->(Yp p a.pt).op=12\/(Yp p a.pt).op=13))
variable {p:GProg} {s:GM} {l:List GAct} {a:GAct}
theorem GMOk.re (h:GMOk p s) {s':GM} (hh:HpOk p s'.heap) (hl:HpLe s.heap s'.heap) (ha:s'.acts=s.acts) (hs:s'.stop=s.stop):GMOk p s' where
 heap:=hh
 acts:=fun b hb=>(h.acts b (by rw[<-ha];exact hb)).le hl
 calls:=by rw[ha];exact h.calls
 depth:=by rw[ha];exact h.depth
 done:=by rw[ha,hs];exact h.done
 stop:=by rw[hs];exact h.stop
theorem GMOk.halt (h:GMOk p s) (ha:s.acts=l++[a]) {st:Nat} (h1:st≠1) (h6:st<=6):GMOk p { s with stop:=st } where
 heap:=h.heap
 acts:=h.acts
 calls:=h.calls
 depth:=h.depth
 done:=⟨fun e=>by simp only[ha] at e;simp at e,fun e=>absurd e h1⟩
 stop:=h6
theorem GMOk.set (h:GMOk p s) (ha:s.acts=l++[a]) {b:GAct} (hb:ActOk p s.heap b):GMOk p (s.setTop b) where
 heap:=h.heap
 acts:=fun c hc=>by
  rw[X0 b ha] at hc
  rcases List.mem_append.1 hc with hc|hc
  ·exact h.acts c (by rw[ha];simp[hc])
  ·rw[List.mem_singleton.1 hc];exact hb
 calls:=by
  rw[X0 b ha];have:=h.calls;rw[ha] at this;simpa using this
 depth:=by
  rw[X0 b ha];have:=h.depth;rw[ha] at this;simpa using this
 done:=by
  rw[X0 b ha];have:=h.done;rw[ha] at this;exact⟨fun e=>by simp at e,fun e=>by have:=this.2 e;simp at this⟩
 stop:=h.stop
theorem GMOk.next (hN:NOk p) (h:GMOk p s) (ha:s.acts=l++[a]) (ho:Up (Yp p a.pt).op=false) {v:GVal} (hv:ValOk p s.heap v) {d:Str} (hd:d=(Yp p a.pt).dst) {st:Nat} (h1:st≠1) (h6:st<=6):GMOk p (s.next p d v st):=by
 unfold GM.next
 split
 ·rw[X1 ha,hd];exact h.set ha ((h.acts a (by rw[ha];simp)).on hN ho hv)
 ·exact h.halt ha h1 h6
theorem Zke (ha:s.acts=l++[a]) (hd:s.did=false) (ho:Up (Yp p a.pt).op=false) (hc:Yj (Yp p a.pt).op=false) (d:Str) (v:GVal) (st:Nat):MvOk p l a (s.next p d v st):=by
 simp only[Yj,Bool.or_eq_false_iff,beq_eq_false_iff_ne] at hc;simp only[Up,Bool.or_eq_false_iff,beq_eq_false_iff_ne] at ho;unfold GM.next
 split
 ·rename_i h0
  rw[X1 ha];refine .inr (.inr ⟨hd,ho.2,?_,fun e=>by omega,fun h1 h2=>?_⟩)
  ·rw[X0 _ ha];simp[GAct.on,V3]
  ·rw[X1 (X0 _ ha)] at h2;simp only[GAct.on,V3] at h2;have:=congrArg (fun q:GPt=>q.2.2) h2;simp at this
 ·rename_i h0
  refine .inr (.inr ⟨hd,ho.2,?_,fun e=>by omega,fun h1=>absurd h1 h0⟩);simp[ha]
theorem GMOk.enter (hN:NOk p) (h:GMOk p s) (ha:s.acts=l++[a]) (h0:s.stop=0) (hd:s.did=false) (hop:(Yp p a.pt).op=10\/(Yp p a.pt).op=11) {g:Nat} {x:GFun} (hx:p[g]?=some x) {args:List Str} (hl:x.params.length=args.length) (hargs:args=(Yp p a.pt).args):
  GMOk p (s.enter p g args)/\MvOk p l a (s.enter p g args):=by
 unfold GM.enter
 split
 ·refine⟨h.halt ha (by decide) (by decide),.inr (.inr ⟨hd,by omega,by simp[ha],fun _=>by simp,fun e=>absurd e (by simp)⟩)⟩
 ·rename_i h64
  have hA:=h.acts a (by rw[ha];simp);refine⟨⟨h.heap,fun b hb=>?_,?_,?_,?_,h.stop⟩,.inl ⟨rfl,hop,?_,(Le hx).1,?_,h0,?_,?_⟩⟩
  ·rcases List.mem_append.1 hb with hb|hb
   ·exact h.acts b hb
   ·rw[List.mem_singleton.1 hb,X1 ha];exact hA.enter hN hx hl
  ·simp only[List.dropLast_concat];intro b hb;rw[ha] at hb
   rcases List.mem_append.1 hb with hb|hb
   ·refine h.calls b ?_;rw[ha];simpa using hb
   ·rw[List.mem_singleton.1 hb];exact hop
  ·simp only[List.length_append,List.length_singleton];omega
  ·simp only[List.append_eq_nil_iff,List.cons_ne_self,and_false,false_iff];omega
  ·simp[X1 ha]
  ·simp[ha]
  ·simp only;rw[Ke hx,List.length_map,hl,hargs]
  ·simp[GM.top]
theorem Zqh (hd:s.did=false) (ha:s.acts=l++[a]) (ho:(Yp p a.pt).op=12\/(Yp p a.pt).op=13) (t:Str):MvOk p l a (s.jump p t):=by
 unfold GM.jump;refine .inr (.inr ⟨hd,by omega,?_,fun e=>by omega,fun _ _=>ho⟩);rw[X0 _ ha,X1 ha];simp[GAct.jump]
theorem GMOk.jump (hN:NOk p) (hS:SOk p) (h:GMOk p s) (ha:s.acts=l++[a]) (ho:(Yp p a.pt).op=12\/(Yp p a.pt).op=13) {t:Str} (ht:t∈(Yp p a.pt).lb9):GMOk p (s.jump p t):=by
 obtain⟨_,_,_,_,_,_,_,_,_,_,_,_,_,hj⟩:=Zqg hN hS (h.acts a (by rw[ha];simp)) ho ht;unfold GM.jump;rw[X1 ha];exact h.set ha hj
theorem Zjy (hN:NOk p) {i b k:Nat} {f:GFun} {y:GBlk} {x:GIns} (hf:p[i]?=some f) (hy:f.bk9[b]?=some y) (hx:y.code[k]?=some x):(x.op=12->x.lb9.length=2)/\(x.op=13->x.lb9.length=1)/\(x.op=1\/x.op=2->1<=x.n/\x.n<=64)/\(x.op=7->0<=x.n/\x.n<64)/\1<=x.op/\x.op<=14:=by
 have h1:=hN.ins hf hy hx;simp only[Zm,Bool.or_eq_false_iff] at h1;obtain⟨h0,h1⟩:=h1;refine⟨fun e=>?_,fun e=>?_,fun e=>?_,fun e=>?_,?_⟩
 ·unfold Y6 at h1;simpa [e] using h1
 ·unfold Y6 at h1;simpa [e] using h1
 ·unfold Y6 at h1;rw[if_pos e] at h1;simp only[Bool.or_eq_false_iff,decide_eq_false_iff_not] at h1;omega
 ·unfold Y6 at h1;rw[if_neg (by omega),if_pos e] at h1;simp only[Bool.or_eq_false_iff,decide_eq_false_iff_not] at h1;omega
 ·unfold Y1 at h0
  split at h0
  ·cases h0
  ·rename_i sh hsh
   unfold Y0 at hsh
   split at hsh<;>first|omega|cases hsh
theorem Zqv (hN:NOk p) {f:GFun} {y:GBlk} {x:GIns} {q:GPt} (hf:p[q.1]?=some f) (hy:f.bk9[q.2.1]?=some y) (hx:y.code[q.2.2]?=some x) (ho:x.op=1\/x.op=2):
  1<=(Ua p q).2.1/\(Ua p q).2.1<=64/\(Ua p q).1+(Ua p q).2.1<=(Zh p p.length).of.length/\(Ua p q).2.2=true:=by
 have hs:Xe x=true:=by simp only[Xe,Bool.or_eq_true,beq_iff_eq];exact ho
 obtain⟨-,h3,-⟩:=Zut hN hf hy hx rfl rfl;obtain⟨g1,g2,-⟩:=h3 hs;have hn:=(Zjy hN hf hy hx).2.2.1 ho;have e:Ua p q=((stAt p q.1 f (Xv [f] 0 f.bk9 q.2.1 y.code q.2.2)).of.length,x.n.toNat,true):=by
  unfold Ua;rw[show Z6 (Zh p p.length).at_ q=some _ from g1];simp only;rw[g2];rfl
 rw[e];refine⟨by simp only;omega,by simp only;omega,?_,rfl⟩;have hb:=(Jf p (Lf _)).bs _ _ g2 (x.n.toNat-1) (by simp only;omega);have:=(Le hb).1;simp only at this ⊢;omega
theorem Kw (h:GHp) (x:GVal):Yi h x≠1/\Yi h x<=6:=by
 unfold Yi
 split
 ·decide
 ·split<;>decide
theorem Zry {h:GHp} (x:GVal) (k:Int):ValOk p h (V1 h x k).1/\(V1 h x k).2≠1/\(V1 h x k).2<=6:=by
 unfold V1
 split
 ·rename_i h0
  split
  ·rename_i hk
   refine⟨.inr (.inl ⟨rfl,?_⟩),by simp,by simp⟩;unfold Zqc at hk;unfold Kv;simp only
   cases e:h[x.obj]? with
   |none=>rw[e] at hk;simp at hk;omega
   |some o=>
    rw[e] at hk;simp only[Option.map_some,Option.getD_some] at hk;simp only[Option.bind_some];rw[List.getElem?_eq_getElem (by omega)];rfl
  ·exact⟨.inl rfl,by simp,by simp⟩
 ·exact⟨.inl rfl,Kw h x⟩
theorem hpAt_ok {h:GHp} (hk:HpOk p h) (x:GVal):ValOk p h ((Kv h x).getD nilV):=by
 unfold Kv
 cases e:h[x.obj]? with
 |none=>exact .inl rfl
 |some o=>
  cases e2:o.2[x.n]? with
  |none=>simp only[Option.bind_some,e2];exact .inl rfl
  |some v=>simp only[Option.bind_some,e2];exact hk.vals o (Ll e) v (Ll e2)
theorem GMOk.move (hN:NOk p) (hS:SOk p) (h:GMOk p s) (hs:s.stop=0) (c:Bool) (ha:s.acts=l++[a]):GMOk p (s.move p c)/\MvOk p l a (s.move p c):=by
 unfold GM.move;rw[if_pos hs,X1 ha];obtain⟨s1,hs1⟩:∃ s1:GM,s1={ s with did:=false }:=⟨_,rfl⟩
 have h1:GMOk p s1:=by rw[hs1];exact⟨h.heap,h.acts,h.calls,h.depth,h.done,h.stop⟩
 have ha1:s1.acts=l++[a]:=by rw[hs1];exact ha
 have hd1:s1.did=false:=by rw[hs1]
 have hz1:s1.stop=0:=by rw[hs1];exact hs
 rw[<-hs1];clear hs1 h ha hs;have hA:=h1.acts a (by rw[ha1];simp);obtain⟨f,y,x,vs,fs,hf,hy,hx,h6,-,-⟩:=hA.at_;have hix:=Qj hf hy hx;have hlb:=Zjy hN hf hy hx;unfold GM.doI;rw[X1 ha1];rw[<-hix] at hlb h6;have plain:∀ (d:Str) (v:GVal) (st:Nat),d=(Yp p a.pt).dst->ValOk p s1.heap v->st≠1->st<=6->Up (Yp p a.pt).op=false->Yj (Yp p a.pt).op=false->GMOk p (s1.next p d v st)/\MvOk p l a (s1.next p d v st):=
  fun d v st e1 e2 e3 e4 e5 e6=>⟨h1.next hN ha1 e5 e2 e1 e3 e4,Zke ha1 hd1 e5 e6 d v st⟩
 by_cases ho:(Yp p a.pt).op=1\/(Yp p a.pt).op=2
 ·rw[if_pos ho];have he:Up (Yp p a.pt).op=false/\Yj (Yp p a.pt).op=false:=by rcases ho with e|e<;>rw[e]<;>exact⟨rfl,rfl⟩
  obtain⟨g1,g2,g3,-⟩:=Zqv hN hf hy hx (by rw[<-hix];exact ho);unfold GM.make;rw[X1 ha1]
  split
  ·rename_i hsz
   obtain⟨s2,hs2⟩:∃ s2:GM,s2={ s1 with heap:=s1.heap++[((Ua p a.pt).1,List.replicate (Ua p a.pt).2.1 nilV)] }:=⟨_,rfl⟩
   have h2:GMOk p s2:=by rw[hs2];exact h1.re (h1.heap.push g3 hsz g1) (.push _ _) rfl rfl
   have ha2:s2.acts=l++[a]:=by rw[hs2];exact ha1
   have hd2:s2.did=false:=by rw[hs2];exact hd1
   rw[<-hs2];refine⟨h2.next hN ha2 he.1 (.inr (.inl ⟨rfl,?_⟩)) rfl (by decide) (by decide),Zke ha2 hd2 he.1 he.2 _ _ _⟩;rw[hs2];unfold Kv;simp only;rw[List.getElem?_append_right (Nat.le_refl _),Nat.sub_self];simp only[List.getElem?_cons_zero,Option.bind_some];rw[List.getElem?_replicate,if_pos (by omega)];rfl
  ·refine⟨h1.halt ha1 (by decide) (by decide),.inr (.inr ⟨hd1,by omega,by simp[ha1],fun e=>by omega,fun e=>absurd e (by simp)⟩)⟩
 ·rw[if_neg ho];have n1:=ho;clear ho
  by_cases ho:(Yp p a.pt).op=3
  ·rw[if_pos ho];exact plain _ _ _ rfl (.inl rfl) (by decide) (by decide) (by rw[ho];rfl) (by rw[ho];rfl)
  ·rw[if_neg ho];have n3:=ho;clear ho
   by_cases ho:(Yp p a.pt).op=4
   ·rw[if_pos ho];refine plain _ _ _ rfl (.inr (.inr ⟨rfl,rfl,?_⟩)) (by decide) (by decide) (by rw[ho];rfl) (by rw[ho];rfl);obtain⟨j,g,hj,e,-⟩:=Zlx hN hf hy hx (.inr (by rw[<-hix];exact ho));rw[hix,<-e];simp only[(Zog hN hj).1];exact (Le hj).1
   ·rw[if_neg ho];have n4:=ho;clear ho
    by_cases ho:(Yp p a.pt).op=5
    ·rw[if_pos ho];exact plain _ _ _ rfl (Zav hA _) (by decide) (by decide) (by rw[ho];rfl) (by rw[ho];rfl)
    ·rw[if_neg ho];have n5:=ho;clear ho
     by_cases ho:(Yp p a.pt).op=7
     ·rw[if_pos ho];obtain⟨k1,k2,k3⟩:=Zry (p:=p) (h:=s1.heap) (a.has p (Yp p a.pt).a) (Yp p a.pt).n;exact plain _ _ _ rfl k1 k2 k3 (by rw[ho];rfl) (by rw[ho];rfl)
     ·rw[if_neg ho];have n7:=ho;clear ho
      by_cases ho:(Yp p a.pt).op=8
      ·rw[if_pos ho];exact plain _ _ _ rfl (hpAt_ok h1.heap _) (Kw _ _).1 (Kw _ _).2 (by rw[ho];rfl) (by rw[ho];rfl)
      ·rw[if_neg ho];have n8:=ho;clear ho
       by_cases ho:(Yp p a.pt).op=9
       ·rw[if_pos ho];have hdd:([]:Str)=(Yp p a.pt).dst:=by rw[hix];exact (Zln hN hf hy hx (.inl (by rw[<-hix];exact ho))).symm
        unfold GM.store;obtain⟨s2,hs2⟩:∃ s2:GM,s2={ s1 with heap:=if Yi s1.heap (a.has p (Yp p a.pt).b)=0 then Uf s1.heap (a.has p (Yp p a.pt).b) (a.has p (Yp p a.pt).a) else s1.heap }:=⟨_,rfl⟩
        have h2:GMOk p s2:=by
         rw[hs2];refine h1.re ?_ ?_ rfl rfl
         ·simp only;split
          ·exact h1.heap.store _ (Zav hA _)
          ·exact h1.heap
         ·simp only;split
          ·exact .store _ _ _
          ·exact .refl _
        have ha2:s2.acts=l++[a]:=by rw[hs2];exact ha1
        have hd2:s2.did=false:=by rw[hs2];exact hd1
        rw[<-hs2];exact⟨h2.next hN ha2 (by rw[ho];rfl) (.inl rfl) hdd (Kw _ _).1 (Kw _ _).2,Zke ha2 hd2 (by rw[ho];rfl) (by rw[ho];rfl) _ _ _⟩
       ·rw[if_neg ho];have n9:=ho;clear ho
        by_cases ho:(Yp p a.pt).op=10
        ·rw[if_pos ho];obtain⟨g,hg,hl⟩:=Zfj hN hf hy hx (by rw[<-hix];exact ho);rw[<-hix] at hg hl;exact h1.enter hN ha1 hz1 hd1 (.inl ho) hg hl rfl
        ·rw[if_neg ho];have n10:=ho;clear ho
         by_cases ho:(Yp p a.pt).op=11
         ·rw[if_pos ho];have hv:=Zav hA (Yp p a.pt).a;unfold GM.icall
          split
          ·rename_i hk
           split
           ·rename_i hl
            have hn:(a.has p (Yp p a.pt).a).n<p.length:=by
             rcases hv with e|⟨e,_⟩|e
             ·rw[e] at hk;simp[nilV] at hk
             ·omega
             ·exact e.2.2
            have hg:p[(a.has p (Yp p a.pt).a).n]?=some p[(a.has p (Yp p a.pt).a).n]:=Ld hn;exact h1.enter hN ha1 hz1 hd1 (.inr ho) hg (by rw[Ke hg,List.length_map] at hl;exact hl) rfl
           ·exact⟨h1.halt ha1 (by decide) (by decide),.inr (.inr ⟨hd1,by omega,by simp[ha1],fun e=>by simp,fun e=>absurd e (by simp)⟩)⟩
          ·exact⟨h1.halt ha1 (by decide) (by decide),.inr (.inr ⟨hd1,by omega,by simp[ha1],fun e=>by simp,fun e=>absurd e (by simp)⟩)⟩
         ·rw[if_neg ho];have n11:=ho;clear ho
          by_cases ho:(Yp p a.pt).op=12
          ·rw[if_pos ho];have hl2:=hlb.1 ho;have hm:(((Yp p a.pt).lb9[if c=true then 1 else 0]?).getD [])∈(Yp p a.pt).lb9:=by
            have:(if c=true then 1 else 0)<(Yp p a.pt).lb9.length:=by split<;>omega
            rw[List.getElem?_eq_getElem this];exact List.getElem_mem _
           exact⟨h1.jump hN hS ha1 (.inl ho) hm,Zqh hd1 ha1 (.inl ho) _⟩
          ·rw[if_neg ho];have n12:=ho;clear ho
           by_cases ho:(Yp p a.pt).op=13
           ·rw[if_pos ho];have hl2:=hlb.2.1 ho;have hm:(((Yp p a.pt).lb9[0]?).getD [])∈(Yp p a.pt).lb9:=by
             rw[List.getElem?_eq_getElem (by omega)];exact List.getElem_mem _
            exact⟨h1.jump hN hS ha1 (.inr ho) hm,Zqh hd1 ha1 (.inr ho) _⟩
           ·rw[if_neg ho];have n13:=ho;clear ho
            by_cases ho:(Yp p a.pt).op=14
            ·rw[if_pos ho];have hpa:s1.pop.acts=l:=by simp[GM.pop,ha1]
             unfold GM.ret
             split
             ·rename_i hem
              have hl0:l=[]:=by rw[<-hpa];simpa using hem
              refine⟨⟨h1.heap,fun b hb=>?_,fun b hb=>?_,?_,?_,by simp⟩,.inr (.inl ⟨hd1,ho,by simp[hpa]⟩)⟩
              ·simp only[hpa,hl0] at hb;cases hb
              ·simp only[hpa,hl0] at hb;cases hb
              ·simp[hpa,hl0]
              ·simp[hpa,hl0]
             ·rename_i hem
              have hne:s1.pop.acts≠[]:=by simpa using hem
              obtain⟨l2,b,hb⟩:=Zfc hne;have hlb2:l=l2++[b]:=by rw[<-hpa];exact hb
              have hcall:=h1.calls b (by rw[ha1,hlb2];simp);have h2:GMOk p s1.pop:=by
               refine⟨h1.heap,fun c hc=>h1.acts c ?_,fun c hc=>h1.calls c ?_,?_,?_,h1.stop⟩
               ·rw[hpa] at hc;rw[ha1];simp[hc]
               ·rw[hb,List.dropLast_concat] at hc;rw[ha1,List.dropLast_concat,hlb2];simp[hc]
               ·have:=h1.depth;rw[ha1] at this;rw[hpa];simp at this;omega
               ·have:s1.pop.stop=0:=hz1;rw[hb,this];simp
              rw[X1 hb];have he:Up (Yp p b.pt).op=false:=by rcases hcall with e|e<;>rw[e]<;>rfl
              refine⟨h2.next hN hb he (Zav hA _) rfl (by decide) (by decide),.inr (.inl ⟨?_,ho,?_⟩)⟩
              ·unfold GM.next;rw[if_pos rfl];exact hd1
              ·unfold GM.next;rw[if_pos rfl,X1 hb,X0 _ hb,hlb2];simp[GAct.on,V3]
            ·exfalso
             omega
theorem Zoi (hN:NOk p):GMOk p (gm0 p):=by
 have h1:U1 p=none:=hN 4 (by omega) (by omega);unfold U1 at h1
 split at h1
 ·cases h1
 ·rename_i j hj
  obtain⟨hjl,hj2,-⟩:=List.findIdx?_eq_some_iff_getElem.1 hj;have hjm:p[j]?=some p[j]:=Ld hjl;have hjn:p[j].name=mainS:=eq_of_beq hj2;have hix:=(Zog hN hjm).1;rw[hjn] at hix;have hpar:p[j].params=[]:=by
   split at h1
   ·cases h1
   ·rename_i h2
    rw[hjm] at h2;simp only[Option.map_some,Option.getD_some] at h2;exact List.eq_nil_of_length_eq_zero (by omega)
  have hb:=(hN.bk9 hjm).1;have hy:p[j].bk9[0]?=some p[j].bk9[0]:=Ld hb;have hc:=(hN.ends hjm hy).1;have hcl:=List.length_pos_iff.2 hc;have hz:p[j].bk9[0].code[0]?=some p[j].bk9[0].code[0]:=Ld hcl;unfold gm0;rw[hix];refine⟨⟨fun o ho=>(by cases ho),fun o ho=>(by cases ho),by simp[Ya],fun o ho=>(by cases ho)⟩,fun a ha=>?_,fun a ha=>(by cases ha),by simp,by simp,by simp⟩;rw[List.mem_singleton.1 ha];exact⟨⟨p[j],p[j].bk9[0],p[j].bk9[0].code[0],[],[],hjm,hy,hz,fun e=>(hN.badPhi hjm hy hz e).1 rfl,⟨.start p[j] hb,⟨.inl rfl,fun s hs=>(by rw[hpar] at hs;cases hs),fun v hv=>by cases hv⟩,.inl rfl⟩,fun z hz=>by simp at hz⟩,fun k v e=>by cases e⟩
end

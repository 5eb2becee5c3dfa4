/- Facts of a run in plain data. No condition. -/
import Derived.Test.YtphnnmecmiodhaaGreatESp
import Derived.Maps.RangeWalk
set_option linter.all false
namespace Go.Proofs.YtphnnmecmiodhaaGreat
section
theorem Zxk {κ β:Type} [BEq κ] [LawfulBEq κ] (k:κ) (v:β):∀ m:List (κ×β),(Yz m k v).map (·.1)=if k∈m.map (·.1) then m.map (·.1) else m.map (·.1)++[k]
 |[]=>by simp[Yz]
 |(k',v')::m=>by
  unfold Yz
  by_cases h:k=k'
  ·subst h;simp
  ·have h1:(k == k')=false:=by simpa using h
   rw[h1];simp only[Bool.false_eq_true,if_false,List.map_cons,List.mem_cons,Zxk k v m,h,false_or]
   split<;>simp
theorem Zyg {κ β:Type} [BEq κ] [LawfulBEq κ] {m:List (κ×β)} (k:κ) (v:β) (h:(m.map (·.1)).Nodup):((Yz m k v).map (·.1)).Nodup:=by
 rw[Zxk]
 split
 ·exact h
 ·rename_i hk
  rw[List.nodup_append];exact⟨h,by simp,fun a ha b hb e=>hk (by rw[List.mem_singleton.1 hb] at e;exact e▸ha)⟩
def KeysNd (s:GM):Prop:=∀ a∈s.acts,(a.vars.map (·.1)).Nodup
variable {p:GProg} {s:GM}
theorem KeysNd.top (h:KeysNd s):(s.top.vars.map (·.1)).Nodup:=by
 unfold GM.top
 cases e:s.acts.getLast? with
 |none=>simp[gact0]
 |some a=>exact h a (List.mem_of_getLast? e)
theorem KeysNd.setTop (h:KeysNd s) {b:GAct} (hb:(b.vars.map (·.1)).Nodup):KeysNd (s.setTop b):=fun a ha=>by
 unfold GM.setTop at ha
 rcases List.mem_append.1 ha with ha|ha
 ·exact h a (List.dropLast_subset _ ha)
 ·rw[List.mem_singleton.1 ha];exact hb
theorem Zyw {a:GAct} (t:Str) (x:GVal) (h:(a.vars.map (·.1)).Nodup):((a.put p t x).vars.map (·.1)).Nodup:=by
 unfold GAct.put
 split
 ·exact Zyg _ _ h
 ·exact h
theorem KeysNd.next (h:KeysNd s) (d:Str) (x:GVal) (st:Nat):KeysNd (s.next p d x st):=by
 unfold GM.next
 split
 ·exact h.setTop (Zyw d x h.top)
 ·exact h
theorem Zyf (a:GAct):∀ (l:List (Nat×Str)) (m:List (Int×GVal)),(m.map (·.1)).Nodup->((l.foldl (fun m q=>Yz m (q.1:Int) (a.has p q.2)) m).map (·.1)).Nodup
 |[],_,h=>h
 |q::l,m,h=>Zyf a l _ (Zyg _ _ h)
theorem KeysNd.enter (h:KeysNd s) (f:Nat) (l:List Str):KeysNd (s.enter p f l):=by
 unfold GM.enter
 split
 ·exact h
 ·intro a ha
  rcases List.mem_append.1 ha with ha|ha
  ·exact h a ha
  ·rw[List.mem_singleton.1 ha];exact Zyf _ _ _ (by simp)
theorem Zxp:∀ (l:List (GIns×GVal)) (a:GAct),(a.vars.map (·.1)).Nodup->((Xr p a l).vars.map (·.1)).Nodup
 |[],_,h=>h
 |q::l,a,h=>Zxp l _ (Zyw _ _ h)
theorem KeysNd.jump (h:KeysNd s) (t:Str):KeysNd (s.jump p t):=by
 unfold GM.jump GAct.jump;exact h.setTop (Zxp _ _ h.top)
theorem KeysNd.heap (h:KeysNd s) (hp:GHp):KeysNd { s with heap:=hp }:=h
theorem KeysNd.stop (h:KeysNd s) (n:Nat):KeysNd { s with stop:=n }:=h
theorem KeysNd.pop (h:KeysNd s):KeysNd s.pop:=fun a ha=>h a (List.dropLast_subset _ ha)
theorem KeysNd.make (h:KeysNd s) (d:Str):KeysNd (s.make p d):=by
 unfold GM.make
 split
 ·exact (h.heap _).next _ _ _
 ·exact h.stop _
theorem KeysNd.store (h:KeysNd s) (x v:GVal):KeysNd (s.store p x v):=(h.heap _).next _ _ _
theorem KeysNd.icall (h:KeysNd s) (x:GVal) (l:List Str):KeysNd (s.icall p x l):=by
 unfold GM.icall
 split
 ·split
  ·exact h.enter _ _
  ·exact h.stop _
 ·exact h.stop _
theorem KeysNd.ret (h:KeysNd s) (x:GVal):KeysNd (s.ret p x):=by
 unfold GM.ret
 split
 ·exact h.pop.stop _
 ·exact h.pop.next _ _ _
theorem KeysNd.doI (h:KeysNd s) (c:Bool) (i:GIns):KeysNd (s.doI p c i):=by
 unfold GM.doI
 by_cases e:i.op=1\/i.op=2
 ·rw[if_pos e];exact h.make _
 rw[if_neg e];clear e
 by_cases e:i.op=3
 ·rw[if_pos e];exact h.next _ _ _
 rw[if_neg e];clear e
 by_cases e:i.op=4
 ·rw[if_pos e];exact h.next _ _ _
 rw[if_neg e];clear e
 by_cases e:i.op=5
 ·rw[if_pos e];exact h.next _ _ _
 rw[if_neg e];clear e
 by_cases e:i.op=7
 ·rw[if_pos e];exact h.next _ _ _
 rw[if_neg e];clear e
 by_cases e:i.op=8
 ·rw[if_pos e];exact h.next _ _ _
 rw[if_neg e];clear e
 by_cases e:i.op=9
 ·rw[if_pos e];exact h.store _ _
 rw[if_neg e];clear e
 by_cases e:i.op=10
 ·rw[if_pos e];exact h.enter _ _
 rw[if_neg e];clear e
 by_cases e:i.op=11
 ·rw[if_pos e];exact h.icall _ _
 rw[if_neg e];clear e
 by_cases e:i.op=12
 ·rw[if_pos e];exact h.jump _
 rw[if_neg e];clear e
 by_cases e:i.op=13
 ·rw[if_pos e];exact h.jump _
 rw[if_neg e];clear e
 by_cases e:i.op=14
 ·rw[if_pos e];exact h.ret _
 rw[if_neg e];clear e;exact h
theorem KeysNd.move (h:KeysNd s) (c:Bool):KeysNd (s.move p c):=by
 unfold GM.move
 split
 ·exact KeysNd.doI (s:={ s with did:=false }) h c _
 ·exact h
theorem Ygv (p:GProg):KeysNd (gm0 p):=fun a ha=>by
 unfold gm0 at ha;rw[List.mem_singleton.1 ha];simp
def Zws (p:GProg) (h:GHp) (x:GVal):Option Nat:=if x.kind=2 then some ((Zh p p.length).of.length+x.n) else if Yi h x=0 then some (Zwv h x) else none
def Zwr (p:GProg) (h:GHp) (q:Int×GVal):Option (Int×Nat):=(Zws p h q.2).map fun o=>(q.1,o)
def Yau (p:GProg) (h:GHp) (vars:List (Int×GVal)) (L:List (Int×Nat)):Prop:=L.Perm (vars.filterMap (Zwr p h))/\L.Pairwise fun x y=>x.1<y.1
theorem Zwy {p:GProg} {h:GHp} {q:Int×GVal} {x:Int×Nat} (e:Zwr p h q=some x):x.1=q.1:=by
 unfold Zwr at e
 cases hf:Zws p h q.2 with
 |none=>rw[hf] at e;cases e
 |some o=>rw[hf] at e;cases e;rfl
theorem Zwt {p:GProg} {h:GHp}:∀ {l:List (Int×GVal)},(l.map (·.1)).Nodup->((l.filterMap (Zwr p h)).map (·.1)).Nodup
 |[],_=>by simp
 |q::l,hn=>by
  rw[List.map_cons,List.nodup_cons] at hn;rw[List.filterMap_cons]
  cases hf:Zwr p h q with
  |none=>exact Zwt hn.2
  |some x=>
   rw[List.map_cons,List.nodup_cons];refine⟨fun hm=>hn.1 ?_,Zwt hn.2⟩;obtain⟨y,hy,e⟩:=List.mem_map.1 hm;obtain⟨z,hz,e2⟩:=List.mem_filterMap.1 hy;rw[<-Zwy hf,<-e,Zwy e2];exact List.mem_map.2 ⟨z,hz,rfl⟩
theorem Zyc {p:GProg} {h:GHp} {vars:List (Int×GVal)} {L:List (Int×Nat)} (hn:(vars.map (·.1)).Nodup) (hp:L.Perm (vars.filterMap (Zwr p h))) (hs:L.Pairwise fun x y=>x.1<=y.1):Yau p h vars L:=by
 refine⟨hp,?_⟩;have hnd:(L.map (·.1)).Nodup:=(hp.map _).nodup_iff.2 (Zwt hn);rw[List.nodup_iff_pairwise_ne,List.pairwise_map] at hnd;exact (hs.and hnd).imp fun {x y} h=>by omega
theorem Zxw {α β:Type} {f g:α->Option β}:∀ {l:List α},(∀ x∈l,f x=g x)->l.filterMap f=l.filterMap g
 |[],_=>rfl
 |x::l,h=>by rw[List.filterMap_cons,List.filterMap_cons,h x (by simp),Zxw fun y hy=>h y (by simp[hy])]
theorem Zyo {α β:Type} (l:List α) (f:α->Option β) {S:List Nat} (h:S.Perm (List.range l.length)):(S.filterMap fun i=>(l[i]?).bind f).Perm (l.filterMap f):=by
 refine (h.filterMap _).trans (List.Perm.of_eq ?_);have:∀ (l:List α) (n:Nat),((List.range' n l.length).filterMap fun i=>((l[i-n]?).bind f))=l.filterMap f:=by
  intro l
  induction l with
  |nil=>intro n;rfl
  |cons x l ih=>
   intro n;rw[List.length_cons,List.range'_succ,List.filterMap_cons,Nat.sub_self,List.getElem?_cons_zero,Option.bind_some,List.filterMap_cons];have e:(List.filterMap (fun i=>(((x::l)[i-n]?).bind f)) (List.range' (n+1) l.length))=l.filterMap f:=by
    rw[<-ih (n+1)];refine Zxw fun i hi=>?_
    rw[List.mem_range'_1] at hi;rw[show i-n=(i-(n+1))+1 by omega,List.getElem?_cons_succ]
   rw[e]
 have h0:=this l 0;rw[<-List.range_eq_range'] at h0;exact h0
end
section
open Go.ChangeMaps (setBlock)
variable {κ β:Type} {ek:κ->Value} {ev:β->Value} {P:Program}
theorem Zxc:∀ (l:List (κ×β)) (n i:Nat),(Qu ek ev n l)[i]?=(l[i]?).map fun q=>{ key:=ek q.1,val:=ev q.2,born:=n+i }
 |[],_,_=>by simp[Qu]
 |(k,v)::l,n,0=>by simp[Qu]
 |(k,v)::l,n,i+1=>by
  rw[Qu,List.getElem?_cons_succ,Zxc l (n+1) i,List.getElem?_cons_succ];rw[show n+1+i=n+(i+1) by omega]
theorem Zxl (l:List (κ×β)) (n:Nat):(Qu ek ev n l).map (·.born)=List.range' n l.length:=by
 induction l generalizing n with
 |nil=>rfl
 |cons x l ih=>
  obtain⟨k,v⟩:=x;simp[Qu,ih,List.range'_succ]
structure RngAt (ek:κ->Value) (ev:β->Value) (w:World) (r b:Nat) (l:List (κ×β)) (S:List Nat):Prop where
 map:w.heap[b]?=some (Z7 ek ev l)
 it:∃ c,l.length<=c/\w.heap[r]?=some (.mapIter (some b) l.length S.toArray c)
 nd:S.Nodup
 lt:∀ i∈S,i<l.length
theorem RngAt.ne {w:World} {r b:Nat} {l:List (κ×β)} {S:List Nat} (h:RngAt ek ev w r b l S):r≠b:=by
 rintro rfl;obtain⟨c,_,e⟩:=h.it;rw[h.map] at e
 cases e
theorem RngAt.keep {w w':World} {r b:Nat} {l:List (κ×β)} {S:List Nat} (h:RngAt ek ev w r b l S) (hb:w'.heap[b]?=w.heap[b]?) (hr:w'.heap[r]?=w.heap[r]?):RngAt ek ev w' r b l S:=
 ⟨hb.trans h.map,by obtain⟨c,h1,h2⟩:=h.it;exact⟨c,h1,hr.trans h2⟩,h.nd,h.lt⟩
theorem Zyp {w:World} {b:Nat} {l:List (κ×β)} (hb:w.heap[b]?=some (Z7 ek ev l)) {t k e:TypeId} (ht:P.underlying t=some (.map k e)):
  ∃ w',(Instr.range t (.map (some b))).run P w=.ok (.pointer (some ⟨w.heap.size,0,none⟩)) w'/\RngAt ek ev w' w.heap.size b l []/\w.grownBy w' none/\w'.heap.size=w.heap.size+1:=
 ⟨_,run_range_map w t k e b _ _ ht hb,⟨by
  have hl:=(Array.getElem?_eq_some_iff.1 hb).1
  rw[heap_alloc_old w _ hl]
  exact hb,⟨_,Lf _,La _ _⟩,List.nodup_nil,fun i hi=>by cases hi⟩,Lc _ _ _,by simp⟩
theorem Zyu {l:List (κ×β)} {S:List Nat} (h:(leftOf (Qu ek ev 0 l).toArray S.toArray).size=0) (hn:S.Nodup) (hlt:∀ i∈S,i<l.length):S.Perm (List.range l.length):=by
 refine (List.perm_ext_iff_of_nodup hn List.nodup_range).2 fun i=>⟨fun hi=>List.mem_range.2 (hlt i hi),fun hi=>?_⟩
 rw[List.mem_range] at hi;have h1:leftOf (Qu ek ev 0 l).toArray S.toArray= #[]:=Array.eq_empty_of_size_eq_zero h;unfold leftOf at h1;rw[Array.filter_eq_empty_iff] at h1;have h2:(Qu ek ev 0 l)[i]?=some { key:=ek l[i].1,val:=ev l[i].2,born:=0+i }:=by
  rw[Zxc,List.getElem?_eq_getElem hi];rfl
 have h3:=h1 _ (by simpa using Ll h2);simpa using h3
theorem Zyx {w:World} {r b:Nat} {l:List (κ×β)} {S:List Nat} (h:RngAt ek ev w r b l S) (ty:TypeId):
  (S.Perm (List.range l.length)/\(Instr.next (.pointer (some ⟨r,0,none⟩)) false ty).run P w=.ok (.tuple #[.bool false]) w)\/
  ∃ (i:Nat) (k:κ) (v:β) (w':World),l[i]?=some (k,v)/\i∉S/\(Instr.next (.pointer (some ⟨r,0,none⟩)) false ty).run P w=.ok (.tuple #[.bool true,ek k,ev v]) w'/\RngAt ek ev w' r b l (S++[i])/\w.grownBy w' (some r)/\w'.heap.size=w.heap.size/\
   (Instr.entry (.pointer (some ⟨r,0,none⟩))).run P w'=.ok (.tuple #[ek k,ev v]) w':=by
 obtain⟨c,hc,hr⟩:=h.it;have hm:w.heap[b]?=some (.map (Qu ek ev 0 l).toArray l.length):=h.map;have hold:∀ x∈(Qu ek ev 0 l).toArray.toList,x.born<l.length:=fun x hx=>by
  have h1:x.born∈(Qu ek ev 0 l).map (·.born):=List.mem_map.2 ⟨x,by simpa using hx,rfl⟩;rw[Zxl,List.mem_range'_1] at h1;omega
 have hnd:((Qu ek ev 0 l).toArray.toList.map (·.born)).Nodup:=by
  have:(Qu ek ev 0 l).toArray.toList=Qu ek ev 0 l:=rfl;rw[this,Zxl];exact List.nodup_range'
 rcases run_next_at (P:=P) w ty r b l.length c S.toArray _ l.length hr hm hold hc with ⟨h0,hrun⟩|⟨e,he,w1,hw1,hrun⟩
 ·exact .inl ⟨Zyu h0 h.nd h.lt,hrun⟩
 ·obtain⟨he1,he2⟩:=mem_left he;have he1':e∈Qu ek ev 0 l:=by simpa using he1
  obtain⟨i,hi⟩:=List.mem_iff_getElem?.1 he1';rw[Zxc] at hi
  cases hq:l[i]? with
  |none=>rw[hq] at hi;cases hi
  |some q=>
   obtain⟨k,v⟩:=q;rw[hq] at hi;simp only[Option.map_some,Option.some.injEq,Nat.zero_add] at hi;subst hi;simp only at hrun he2;have hiS:i∉S:=by simpa using he2
   have hh:w1.heap=w.heap:=by rcases hw1 with rfl|rfl<;>rfl
   have hrl:=(Array.getElem?_eq_some_iff.1 hr).1;have hset:(setBlock w1 r (.mapIter (some b) l.length (S.toArray.push i) l.length)).heap=w.heap.set! r (.mapIter (some b) l.length (S.toArray.push i) l.length):=by
    show w1.heap.set! r _=_;rw[hh]
   have hgr:w.grownBy (setBlock w1 r (.mapIter (some b) l.length (S.toArray.push i) l.length)) (some r):=by
    refine⟨?_,?_,?_,?_,fun j hj hne=>?_⟩
    ·rcases hw1 with rfl|rfl<;>rfl
    ·rcases hw1 with rfl|rfl<;>rfl
    ·rcases hw1 with rfl|rfl<;>rfl
    ·rw[hset];simp
    ·rw[hset];have:r≠j:=fun e=>hne (by rw[e])
     simp[Array.getElem?_setIfInBounds,this]
   have hnew:(setBlock w1 r (.mapIter (some b) l.length (S.toArray.push i) l.length)).heap[r]?=some (.mapIter (some b) l.length (S.toArray.push i) l.length):=by
    rw[hset];simp[hrl]
   have hmap:(setBlock w1 r (.mapIter (some b) l.length (S.toArray.push i) l.length)).heap[b]?=some (Z7 ek ev l):=by
    rw[hset];have:=h.ne;simp only[Array.set!_eq_setIfInBounds,Array.getElem?_setIfInBounds,this,if_false];exact h.map
   have hrg:RngAt ek ev (setBlock w1 r (.mapIter (some b) l.length (S.toArray.push i) l.length)) r b l (S++[i]):=by
    refine⟨hmap,⟨l.length,Lf _,?_⟩,?_,fun j hj=>?_⟩
    ·rw[hnew];simp
    ·rw[List.nodup_append];exact⟨h.nd,by simp,fun a ha c hc e=>by rw[List.mem_singleton.1 hc] at e;exact hiS (e▸ha)⟩
    ·rcases List.mem_append.1 hj with hj|hj
     ·exact h.lt j hj
     ·rw[List.mem_singleton.1 hj];exact (Le hq).1
   refine .inr ⟨i,k,v,_,hq,hiS,hrun,hrg,hgr,by rw[hset];simp,?_⟩;exact run_entry_at (P:=P) _ r b l.length S.toArray _ l.length { key:=ek k,val:=ev v,born:=i } hnew hmap he1 hnd
section
variable (w:World) {ops:Array Oper} {rest:List Oper} {o:Oper} {a:Act} {Q:Exit->Act->World->Prop}
theorem Zxg (hg:o.guard=none) (m:Operand) (t:TypeId) (hop:o.op=Op.range t m) (k e:TypeId) (ht:P.underlying t=some (.map k e)) (b:Nat) (l:List (κ×β)) (hm:a.eval m=.map (some b)) (hb:w.heap[b]?=some (Z7 ek ev l))
  (hK:∀ w',RngAt ek ev w' w.heap.size b l []->w.grownBy w' none->w'.heap.size=w.heap.size+1->wpList P ops Q rest (a.put o.dst (.pointer (some ⟨w.heap.size,0,none⟩))) w'):wpList P ops Q (o::rest) a w:=by
 refine wpList_plain hg fun K' hK'=>?_
 obtain⟨w',hrun,r1,r2,r3⟩:=Zyp (P:=P) hb ht;unfold Oper.wp;simp[execOp,hop,hm,hrun,Result.andThen];exact hK' _ _ (hK w' r1 r2 r3)
theorem Zxj (hg:o.guard=none) (it:Operand) (hop:o.op=Op.next it false) (r b:Nat) (l:List (κ×β)) (S:List Nat) (hit:a.eval it=.pointer (some ⟨r,0,none⟩)) (h:RngAt ek ev w r b l S)
  (hDone:S.Perm (List.range l.length)->wpList P ops Q rest (a.put o.dst (.tuple #[.bool false])) w)
  (hMore:∀ (i:Nat) (k:κ) (v:β) (w':World),l[i]?=some (k,v)->i∉S->RngAt ek ev w' r b l (S++[i])->w.grownBy w' (some r)->w'.heap.size=w.heap.size->(Instr.entry (.pointer (some ⟨r,0,none⟩))).run P w'=.ok (.tuple #[ek k,ev v]) w'->wpList P ops Q rest (a.put o.dst (.tuple #[.bool true,ek k,ev v])) w'):
  wpList P ops Q (o::rest) a w:=by
 refine wpList_plain hg fun K' hK'=>?_
 unfold Oper.wp
 rcases Zyx (P:=P) h o.type with ⟨h0,hrun⟩|⟨i,k,v,w',h1,h2,hrun,h3,h4,h5,h6⟩
 ·simp[execOp,hop,hit,hrun,Result.andThen];exact hK' _ _ (hDone h0)
 ·simp[execOp,hop,hit,hrun,Result.andThen];exact hK' _ _ (hMore i k v w' h1 h2 h3 h4 h5 h6)
end
end

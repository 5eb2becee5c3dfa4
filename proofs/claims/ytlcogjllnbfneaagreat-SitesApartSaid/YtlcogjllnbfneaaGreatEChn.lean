/- Of one world into another one. No condition. -/
import Derived.Test.YtlcogjllnbfneaaGreatESli
import Derived.WideKeyRuns
import Derived.DeepKeys3
import Derived.RangeFuncLeaves
set_option maxRecDepth 100000
set_option linter.all false
namespace Go.Proofs.YtlcogjllnbfneaaGreat
section
open Go.RowKit
structure Chg (Q:Nat->Prop) (w w':World):Prop where
 os:w'.os=w.os
 tape:w'.tape=w.tape
 output:w'.output=w.output
 size:w.heap.size<=w'.heap.size
 block:∀ k,k<w.heap.size->¬ Q k->w'.heap[k]?=w.heap[k]?
theorem Chg.refl (Q:Nat->Prop) (w:World):Chg Q w w:=⟨rfl,rfl,rfl,Lf _,fun _ _ _=>rfl⟩
theorem Chg.trans {Q Q':Nat->Prop} {a b c:World} (h:Chg Q a b) (k:Chg Q' b c) (hq:∀ n,n<a.heap.size->Q' n->Q n):Chg Q a c:=
 ⟨k.os.trans h.os,k.tape.trans h.tape,k.output.trans h.output,Nat.le_trans h.size k.size,fun n hn hne=>(k.block n (Lm hn h.size) (fun e=>hne (hq n hn e))).trans (h.block n hn hne)⟩
theorem Chg.mono {Q Q':Nat->Prop} {a b:World} (h:Chg Q a b) (hq:∀ n,n<a.heap.size->Q n->Q' n):Chg Q' a b:=
 ⟨h.os,h.tape,h.output,h.size,fun n hn hne=>h.block n hn (fun e=>hne (hq n hn e))⟩
theorem Chg.grown {Q:Nat->Prop} {a b:World} {row:Option Nat} (h:a.grownBy b row) (hq:∀ r,row=some r->Q r):Chg Q a b:=
 ⟨h.os,h.tape,h.output,h.size,fun n hn hne=>h.block n hn (fun e=>hne (hq n e.symm))⟩
theorem Chg.turned {Q:Nat->Prop} {a b:World} {r:Nat} (h:Turned r a b) (hq:Q r):Chg Q a b:=
 ⟨h.os,h.tape,h.output,Nat.le_of_eq h.size.symm,fun n _ hne=>h.block n (fun e=>hne (e▸hq))⟩
theorem Chg.set {Q:Nat->Prop} (w:World) {p:Addr} (hq:Q p.block) (u:Value):Chg Q w (w.setCell p u):=.grown (Zn (Lb w (some p.block)) rfl u) (fun r e=>by injection e with e;exact e▸hq)
theorem Chg.alloc (Q:Nat->Prop) (w:World) (o:Obj):Chg Q w (w.alloc o):=.grown (Lc w o none) (fun r e=>by cases e)
theorem Chg.all {Q:Nat->Prop} {a b:World} (h:Chg Q a b) (hq:∀ n,n<a.heap.size->¬ Q n):a.grownBy b none:=⟨h.os,h.tape,h.output,h.size,fun n hn _=>h.block n hn (hq n hn)⟩
theorem Chg.after {Q:Nat->Prop} {w a b:World} (h:w.grownBy a none) (k:Chg Q a b) (hq:∀ n,n<w.heap.size->¬ Q n):w.grownBy b none:=
 ⟨k.os.trans h.os,k.tape.trans h.tape,k.output.trans h.output,Nat.le_trans h.size k.size,fun n hn _=>(k.block n (Lm hn h.size) (hq n hn)).trans (h.block n hn (by simp))⟩
theorem Chg.at_ {Q:Nat->Prop} {a b:World} (h:Chg Q a b) {n:Nat} {o:Obj} (hn:a.heap[n]?=some o) (hq:¬ Q n):b.heap[n]?=some o:=(h.block n (Ze hn) hq).trans hn
theorem Chg.owns {Q:Nat->Prop} {a b:World} (h:Chg Q a b) {base n sz:Nat} {e:TypeId} {v:Value} {xs:List Value} (ho:a.ownsRow base e sz v n xs) (hq:∀ g,v.ownBlock=some g->¬ Q g):b.ownsRow base e sz v n xs:=by
 obtain⟨hl,h2⟩:=ho;refine⟨hl,?_⟩
 rcases h2 with h2|⟨g,cap,cur,rfl,hb,hh,r⟩
 ·exact .inl h2
 ·exact .inr ⟨g,cap,cur,rfl,hb,h.at_ hh (hq g rfl),r⟩
theorem Ks {κ:Type} [BEq κ] [LawfulBEq κ]:∀ (l:List κ) (n:Nat) (k:κ),Z6 (l.zipIdx n) k=if l.contains k then some (n+l.idxOf k) else none
 |[],_,_=>by simp[Z6]
 |x::l,n,k=>by
  rw[List.zipIdx_cons,Z6,Ks l (n+1) k,List.contains_cons,List.idxOf_cons]
  by_cases h:k=x
  ·subst h;simp
  ·have h1:(k == x)=false:=by simp[h]
   have h2:(x == k)=false:=beq_eq_false_iff_ne.2 (fun e=>h e.symm);simp only[h1,h2,Bool.false_or,Bool.false_eq_true,if_false,cond_false]
   split
   ·congr 1;omega
   ·rfl
theorem Zkv {κ:Type} [BEq κ] [LawfulBEq κ] {l:List κ} {k:κ} (h:¬ k∈l):Yz l.zipIdx k l.length=(l++[k]).zipIdx:=by
 have h1:Va l.zipIdx k 0=none:=by
  have:=Qq l.zipIdx k 0;rw[Ks,if_neg (by simpa using h)] at this
  cases hc:Va l.zipIdx k 0 with
  |none=>rfl
  |some x=>rw[hc] at this;cases this
 rw[J7 h1,List.zipIdx_append];simp
def Ub {κ:Type} [BEq κ] (l:List κ) (k:κ):List κ:=if l.contains k then l else l++[k]
end
section
open Go.RowKit
structure Ybv {κ:Type} [BEq κ] (P:Program) (kt:TypeId) (ek:κ->Value):Prop where
 wide:(match P.underlying kt with|some (.array _ _)|some (.struct _)=>true|_=>false)=true
 check:∀ (a:κ) (em:Bool) (w:World),(Instr.checkKey em 10000 kt (ek a)).run P w=.ok () w
 eqn:∀ (a b:κ) (w:World),(Op.equal kt (ek a) (ek b)).run P w=.ok (a == b) w
 bits:∀ a,Instr.sameBits 10000 (ek a) (ek a)=true
section
variable {κ β:Type} {P:Program} {kt:TypeId} {ek:κ->Value} {ev:β->Value} {w:World}
theorem Zfw [BEq κ] (K:Ybv P kt ek) (k:κ):∀ (l:List (κ×β)) (n i:Nat),(Instr.findAsking kt (ek k) (Qu ek ev n l) i).run P w=.ok ((Va l k i).map fun x=>(x.1,ev x.2)) w
 |[],_,_=>by simp[Qu,Instr.findAsking,Va]
 |(k',v)::l,n,i=>by
  unfold Qu Instr.findAsking Va;simp only[Sem.run_bind,K.eqn,Result.andThen]
  cases h:k == k' with
  |true=>simp
  |false=>simp only[Bool.false_eq_true,if_false];exact Zfw K k l (n+1) (i+1)
theorem Zlu [BEq κ] (K:Ybv P kt ek) (k:κ) (l:List (κ×β)):(Instr.findKey kt (ek k) (Qu ek ev 0 l)).run P w=.ok ((Va l k 0).map fun x=>(x.1,ev x.2)) w:=by
 rw[run_findKey_eq w K.wide];exact Zfw K k l 0 0
theorem Zed [BEq κ] [LawfulBEq κ] (K:Ybv P kt ek) {mt et:TypeId} (hm:P.underlying mt=some (.map kt et)) {r:Nat} {l:List (κ×β)} (hb:w.heap[r]?=some (Z7 ek ev l)) (k:κ) (v:β):
  (Instr.mapUpdate mt (.map (some r)) (ek k) (ev v)).run P w=.ok () (w.putObj r (Z7 ek ev (Yz l k v))):=by
 have hck:=K.check k false w;have hfk:=Zlu (ev:=ev) (w:=w) K k l;have hbits:=K.bits;unfold Z7 at hb ⊢
 cases hc:Va l k 0 with
 |none=>
  rw[hc] at hfk;simp only[Instr.mapUpdate,Sem.run_bind,run_underlying hm,Result.andThen,MapKept.run_getObj_map hb,hck,hfk,Option.map_none,MapKept.run_setObj_map _ hb];rw[J7 hc,Zdq];simp[World.putObj]
 |some x=>
  obtain⟨j,v0⟩:=x;rw[hc] at hfk;obtain⟨_,h2,h3,h4⟩:=Zlt (ek:=ek) (ev:=ev) (b:=0) hc v;simp only[Nat.sub_zero] at h2 h3 h4;have hkey:((((Qu ek ev 0 l).toArray[j]?).map (·.key)).getD (ek k))=ek k:=by
   rw[List.getElem?_toArray,h4];rfl
  have hst:(Instr.keyThatStays (ek k) (ek k)).run P w=.ok (ek k) w:=by
   simp[Instr.keyThatStays,hbits k]
  simp only[Instr.mapUpdate,Sem.run_bind,run_underlying hm,Result.andThen,MapKept.run_getObj_map hb,hck,hfk,Option.map_some,hkey,hst,MapKept.run_setObj_map _ hb];have hlen:(Yz l k v).length=l.length:=by rw[Zdh,hc]
  rw[h3,hlen];simp[World.putObj]
theorem U2 [BEq κ] (K:Ybv P kt ek) {mt et:TypeId} (hm:P.underlying mt=some (.map kt et)) {r:Nat} {l:List (κ×β)} (hb:w.heap[r]?=some (Z7 ek ev l)) (k:κ) {z:Value} (hz:(zeroValue et).run P w=.ok z w):
  (Instr.lookup mt (.map (some r)) (ek k) true).run P w=.ok (.tuple #[match Z6 l k with|some v=>ev v|none=>z,.bool (Z6 l k).isSome]) w:=by
 have hck:=K.check k (Qu ek ev 0 l).isEmpty w;have hfk:=Zlu (ev:=ev) (w:=w) K k l;unfold Z7 at hb;have hg:=Qq l k 0
 cases hc:Va l k 0 with
 |none=>
  rw[hc] at hfk hg;rw[<-hg];simp[Instr.lookup,run_underlying hm,Result.andThen,MapKept.run_getObj_map hb,hck,hfk,hz]
 |some x=>
  rw[hc] at hfk hg;rw[<-hg];simp[Instr.lookup,run_underlying hm,Result.andThen,MapKept.run_getObj_map hb,hck,hfk]
end
def Zcr (x:Nat×Str):Value:=.agg #[.int .i64 x.1,.string ⟨x.2.toArray⟩]
def Ve (x:Nat×Nat×Nat):Value:=.agg #[.int .i64 x.1,.int .i64 x.2.1,.int .i64 x.2.2]
theorem keyL:Ybv Tryz.prog 106 Zcr where
 wide:=by kernel_rfl
 check:=fun a em w=>by
  show (Instr.checkKey em (9998+1+1) _ _).run _ _=_;unfold Instr.checkKey;simp only[Zcr,Sem.run_bind,run_underlying Tryz.underlying106,Result.andThen];rw[<-Array.forIn_toList];simp only[List.forIn_cons,List.forIn_nil];have c1:=MapKept.run_checkKey (P:=Tryz.prog) (w:=w) Tryz.underlying3 (show MapKept.IsKey _ (.int .i64 (a.1:Int)) by simp[MapKept.IsKey]) em 9998;have c2:=MapKept.run_checkKey (P:=Tryz.prog) (w:=w) Tryz.underlying9 (show MapKept.IsKey _ (.string ⟨a.2.toArray⟩) by simp[MapKept.IsKey]) em 9998;go_simp
 eqn:=fun a b w=>by
  show (Op.equalIn 10000 106 _ _).run _ _=_;unfold Zcr;go_simp;obtain⟨a1,a2⟩:=a;obtain⟨b1,b2⟩:=b
  by_cases h1:a1=b1
  ·by_cases h2:a2=b2
   ·simp[h1,h2]
   ·simp[h1,h2]
  ·have:¬ (a1:Int)=b1:=by omega
   simp[h1,this]
 bits:=fun a=>by
  simp[Zcr,Instr.sameBits,Zcm]
theorem Zon:Ybv Tryz.prog 41 Ve where
 wide:=by kernel_rfl
 check:=fun a em w=>by
  show (Instr.checkKey em (9998+1+1) _ _).run _ _=_;unfold Instr.checkKey;simp only[Ve,Sem.run_bind,run_underlying Tryz.underlying41,Result.andThen];rw[<-Array.forIn_toList];simp only[List.forIn_cons,List.forIn_nil];have c1:=fun n:Nat=>MapKept.run_checkKey (P:=Tryz.prog) (w:=w) Tryz.underlying3 (show MapKept.IsKey _ (.int .i64 (n:Int)) by simp[MapKept.IsKey]) em 9998
  go_simp
 eqn:=fun a b w=>by
  show (Op.equalIn 10000 41 _ _).run _ _=_;unfold Ve;go_simp;obtain⟨a1,a2,a3⟩:=a;obtain⟨b1,b2,b3⟩:=b
  by_cases h1:a1=b1
  ·by_cases h2:a2=b2
   ·by_cases h3:a3=b3
    ·simp[h1,h2,h3]
    ·have:¬ (a3:Int)=b3:=by omega
     simp[h1,h2,h3,this]
   ·have:¬ (a2:Int)=b2:=by omega
    simp[h1,h2,this]
  ·have:¬ (a1:Int)=b1:=by omega
   simp[h1,this]
 bits:=fun a=>by
  simp[Ve,Instr.sameBits]
end
section
open Go.RowKit
def MarksAt (w:World) (ds:List Deferred):Prop:=(∀ d∈ds,∃ D,d.target=.collected D/\w.heap[D]?=some (.deferred (some [])))/\(ds.map (·.target)).Nodup
def Zbf (ds:List Deferred):Nat->Prop:=fun n=>∃ d∈ds,d.target=.collected n
theorem Zsf (w:World):MarksAt w []:=⟨(fun d h=>absurd h (by simp)),(by simp)⟩
theorem MarksAt.chg {w w':World} {ds:List Deferred} {Q:Nat->Prop} (h:MarksAt w ds) (hc:Chg Q w w') (hq:∀ n,Zbf ds n->¬ Q n):MarksAt w' ds:=⟨fun d hd=>by
 obtain⟨D,h1,h2⟩:=h.1 d hd
 exact⟨D,h1,hc.at_ h2 (hq D ⟨d,hd,h1⟩)⟩,h.2⟩
theorem MarksAt.cons {w:World} {ds:List Deferred} {d:Deferred} {D:Nat} (h:MarksAt w ds) (ht:d.target=.collected D) (hD:w.heap[D]?=some (.deferred (some []))) (hn:∀ n,Zbf ds n->n≠D):MarksAt w (d::ds):=by
 refine⟨fun e he=>?_,?_⟩
 ·rcases List.mem_cons.1 he with rfl|he
  ·exact⟨D,ht,hD⟩
  ·exact h.1 e he
 ·rw[List.map_cons,List.nodup_cons];refine⟨fun hm=>?_,h.2⟩;obtain⟨e,he,e2⟩:=List.mem_map.1 hm;exact hn D ⟨e,he,e2.trans ht⟩ rfl
theorem MarksAt.mark {w:World} {ds:List Deferred} (h:MarksAt w ds) {n:Nat} (hn:Zbf ds n):w.heap[n]?=some (.deferred (some [])):=by
 obtain⟨d,hd,e⟩:=hn;obtain⟨D,h1,h2⟩:=h.1 d hd;rw[h1] at e;injection e with e
 exact e▸h2
theorem Zoq {ds:List Deferred} {d:Deferred} {D n:Nat} (ht:d.target=.collected D) (h:Zbf (d::ds) n):n=D\/Zbf ds n:=by
 obtain⟨e,he,e2⟩:=h
 rcases List.mem_cons.1 he with rfl|he
 ·rw[ht] at e2;injection e2 with e2
  exact .inl e2.symm
 ·exact .inr ⟨e,he,e2⟩
theorem Zbs {F:Fence} {n:Nat} {P:Program} {fn:Func} {tmps:Array Value} {R:Ending->World->Prop}:∀ (ds:List Deferred) (w:World),MarksAt w ds->
  (∀ w',Chg (Zbf ds) w w'->LeavesIn F n P fn tmps R [] .returning w')->LeavesInM F n P fn tmps R ds .returning w
 |[],w,_,hR=>hR w (.refl _ _)
 |d::ds,w,h,hR=>by
  obtain⟨D,h1,h2⟩:=h.1 d (by simp);have hn:=h.2;simp only[List.map_cons,List.nodup_cons] at hn;have hc:Chg (fun n=>n=D) w (w.putObj D (.deferred none)):=Chg.turned (Q:=fun n=>n=D) (Turned.putObj _ D _) rfl;refine⟨by simp,.inl ⟨D,_,h1,run_takeDeferred h2,Zbs ds _ ⟨fun e he=>?_,hn.2⟩ (fun w' hc'=>hR w' (Chg.trans (hc.mono (fun n _ e=>⟨d,by simp,by rw[h1];exact congrArg _ e.symm⟩)) hc' (fun n _ e=>?_)))⟩⟩
  ·obtain⟨E,h3,h4⟩:=h.1 e (by simp[he]);exact⟨E,h3,hc.at_ h4 (fun e2=>hn.1 (by rw[h1,<-show E=D from e2,<-h3];exact List.mem_map_of_mem he))⟩
  ·obtain⟨e1,he1,he2⟩:=e;exact⟨e1,by simp[he1],he2⟩
end

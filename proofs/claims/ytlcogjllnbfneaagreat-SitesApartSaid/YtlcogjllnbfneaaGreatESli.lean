/- Rows of the call's own as readings. Conditions in it. -/
import Derived.Test.YtlcogjllnbfneaaGreatEBase
import Derived.Maps.AppendAt
import Derived.Test.YtlcogjllnbfneaaGreatEShelf
import Derived.Sort.OwnSortedInts
import Derived.Sort.OwnSorted
import Derived.Deep.RegionLaw
import Derived.StillTailTactics
import Derived.Laws.CopyOwn
set_option maxHeartbeats 1000000
set_option maxRecDepth 100000
set_option linter.all false
namespace Go.Proofs.YtlcogjllnbfneaaGreat
open Lib(hid)
section
open Go.RowKit
theorem SlAt.of_own {α:Type} {R:Rdr α} {w:World} {base:Nat} {e:TypeId} {v:Value} {n:Nat} {l:List α} (enc:α->Value) (h:w.ownsRow base e 1 v n (l.map enc))
  (hR:∀ b o x,x∈l->w.cell? ⟨b,o,none⟩=some (enc x)->R w w.heap.size b o x):SlAt R 1 w w.heap.size v l:=by
 obtain⟨hl,h2⟩:=h;have hn:n=l.length:=by simpa using hl.symm
 subst hn
 rcases h2 with ⟨rfl,h0⟩|⟨g,cap,cur,rfl,_,hh,hc,hm,hcs,ht⟩
 ·have:l=[]:=List.eq_nil_of_length_eq_zero h0;subst this;exact SlAt.nil_ R 1 w _
 ·refine⟨_,cap,rfl,hc,hm,fun k x hx=>⟨g,0,rfl,(Array.getElem?_eq_some_iff.1 hh).1,hR _ _ x (Ll hx) ?_⟩⟩;have hk:k<l.length:=(Le hx).1;rw[(Za hh).1];have e1:(cur.toList.take (l.length*1))[k]?=some (enc x):=by rw[ht,List.getElem?_map,hx];rfl
  rw[List.getElem?_take_of_lt (by omega)] at e1;simpa using e1
theorem Qa {w:World} {base:Nat} {e:TypeId} {v:Value} {n:Nat} {l:List Str} (h:w.ownsRow base e 1 v n (l.map encS)) (hl:∀ s∈l,s.length<=9223372036854775807):StrsAt w w.heap.size v l:=
 SlAt.of_own encS h fun _ _ x hx hc=>⟨hc,hl x hx⟩
theorem Zkm:(Tryz.prog.info? 9).map (fun i=>(i.zero,i.size,i.bytes))=some (some (.string ⟨#[]⟩),1,16):=by kernel_rfl
section
variable {P:Program}
theorem Zce (w:World) (base:Nat) (t ty e:TypeId) (i:TypeInfo) (size:Nat) (ht:P.underlying t=some (.slice e)) (hi:P.info? e=some i)
  (v:Value) (n:Nat) (xs:List Value) (hown:w.ownsRow base e size v n xs) (c:Nat):(Builtin.append_ #[t,t] ty #[v,.slice none 0 c]).run P w=.ok v w:=by
 rcases hown.2 with ⟨rfl,rfl⟩|⟨g,cap,cur,rfl,_,_,hnc,_⟩
 ·simp[Builtin.append_,run_underlying ht,sizeOf,typeInfo,hi,Builtin.lenOf,Builtin.firstCells]
 ·simp[Builtin.append_,run_underlying ht,sizeOf,typeInfo,hi,Builtin.lenOf,Builtin.firstCells,hnc,storeCells]
theorem Zev {α:Type} {R:Rdr α} {w:World} {ops:Array Oper} {rest:List Oper} {o:Oper} {a:Act} {Q:Exit->Act->World->Prop} (hgd:o.guard=none) (s x:Operand) (t:TypeId)
  (ho:o.op=.call { callee:=.builtin .append,args:= #[s,x],argTypes:= #[t,t] })
  (base:Nat) (e:TypeId) (z:Value) (bytes:Nat) (ht:P.underlying t=some (.slice e)) (hinfo:(P.info? e).map (fun i=>(i.zero,i.size,i.bytes))=some (some z,1,bytes)) (hzs:z.cells.size=1)
  (enc:α->Value) (h1:∀ u,(enc u).oneCell'=true) (hR:∀ w B b o x,R w B b o x->w.cell? ⟨b,o,none⟩=some (enc x))
  (v:Value) (l:List α) (hs:a.eval s=v) (hown:w.ownsRow base e 1 v l.length (l.map enc))
  (B:Nat) (v2:Value) (l2:List α) (hx:a.eval x=v2) (hl2:SlAt R 1 w B v2 l2)
  (h63:l.length+l2.length<=maxLen) (hbytes:(l.length+l2.length)*bytes<=140737488355328) (hbase:base<=w.heap.size)
  (h:∀ v' w',w'.ownsRow base e 1 v' (l++l2).length ((l++l2).map enc)->w.grownBy w' v.ownBlock->(v'.ownBlock=v.ownBlock\/v'.ownBlock=some w.heap.size)->wpList P ops Q rest (a.put o.dst v') w'):
  wpList P ops Q (o::rest) a w:=by
 obtain⟨i,hi,hz0,hz1,hz2⟩:=info_parts hinfo;obtain⟨A,c,rfl,_,_,hc⟩:=hl2;have key:∃ v' w',(Builtin.append_ #[t,t] o.type #[v,.slice A l2.length c]).run P w=.ok v' w'/\w'.ownsRow base e 1 v' (l++l2).length ((l++l2).map enc)/\w.grownBy w' v.ownBlock/\(v'.ownBlock=v.ownBlock\/v'.ownBlock=some w.heap.size):=by
  rcases l2 with _|⟨y,l2⟩
  ·rcases A with _|ad
   ·exact⟨v,w,Zce w base t o.type e i 1 ht hi v _ _ hown c,by simpa using hown,Lb w _,.inl rfl⟩
   ·obtain⟨v',w',hrun,h2,h3,_,h5⟩:=run_append_own_at (P:=P) w base t o.type e i z 1 bytes ht hi hz0 hz1 hz2 hzs (by decide) v l.length (l.map enc) hown ad 0 c [] (by simp) (by simp) (by simp) (by simpa using h63) (by simpa using hbytes) hbase;exact⟨v',w',hrun,by simpa using h2,h3,h5⟩
  ·obtain⟨b,off,rfl,_,_⟩:=hc 0 y rfl;have hnews:∀ j u,((y::l2).map enc)[j]?=some u->w.cell? ((⟨b,off,none⟩:Addr).add j)=some u:=by
    intro j u hu;rw[List.getElem?_map] at hu
    cases hy:(y::l2)[j]? with
    |none=>rw[hy] at hu;cases hu
    |some x=>
     rw[hy] at hu;injection hu with hu
     subst hu;obtain⟨b',off',e1,_,hr⟩:=hc j x hy;injection e1 with e1
     injection e1 with e1 e2
     subst e1;subst e2;have:=hR _ _ _ _ _ hr;rw[Nat.mul_one] at this;rw[<-this];unfold Addr.add
     split
     ·rename_i hj;subst hj;rfl
     ·rfl
   obtain⟨v',w',hrun,h2,h3,_,h5⟩:=run_append_own_at (P:=P) w base t o.type e i z 1 bytes ht hi hz0 hz1 hz2 hzs (by decide) v l.length (l.map enc) hown ⟨b,off,none⟩ (y::l2).length c ((y::l2).map enc) (by simp) hnews
    (by intro u hu;obtain⟨x,_,rfl⟩:=List.mem_map.1 hu;exact h1 x) h63 hbytes hbase
   exact⟨v',w',hrun,by rw[List.length_append,List.map_append];exact h2,h3,h5⟩
 obtain⟨v',w',hrun,h2,h3,h5⟩:=key;refine wpList_plain hgd fun K hK=>?_
 unfold Oper.wp execOp;simp only[ho,resolve,invoke,builtin,Sem.run_bind,Sem.run_pure,Result.andThen_ok,List.map_toArray,List.map_cons,List.map_nil,hs,hx,hrun];exact hK _ _ (h v' w' h2 h3 h5)
end
theorem Un {w:World} {ops:Array Oper} {rest:List Oper} {o:Oper} {a:Act} {Q:Exit->Act->World->Prop} (hgd:o.guard=none) (s x:Operand)
  (ho:o.op=.call { callee:=.builtin .append,args:= #[s,x],argTypes:= #[23,23] })
  (base:Nat) (v:Value) (l:List Str) (hs:a.eval s=v) (hown:w.ownsRow base 9 1 v l.length (l.map encS))
  (B:Nat) (v2:Value) (l2:List Str) (hx:a.eval x=v2) (hl2:StrsAt w B v2 l2)
  (hlen:(l.length+l2.length)*16<=140737488355328) (hbase:base<=w.heap.size)
  (h:∀ v' w',w'.ownsRow base 9 1 v' (l++l2).length ((l++l2).map encS)->w.grownBy w' v.ownBlock->(v'.ownBlock=v.ownBlock\/v'.ownBlock=some w.heap.size)->wpList Tryz.prog ops Q rest (a.put o.dst v') w'):
  wpList Tryz.prog ops Q (o::rest) a w:=
 Zev hgd s x 23 ho base 9 (.string ⟨#[]⟩) 16 Tryz.underlying23 Zkm rfl encS (fun _=>rfl) (fun _ _ _ _ _ h=>h.1) v l hs hown B v2 l2 hx hl2 (by unfold maxLen;omega) hlen hbase h
end
section
open Go.RowKit
def Xo (l:List Nat):List Int:=l.map (fun n:Nat=>(n:Int))
theorem Q3 (l:List Nat):l.map Z4=(Xo l).map (Value.int .i64):=by simp[Xo,Z4,Function.comp_def]
theorem Z3 (l:List Nat):(Xo l).length=l.length:=by simp[Xo]
theorem Zva (l:List Str):l.map encS=l.map encStr:=rfl
def Xp (l:List Nat):List Nat:=l.mergeSort fun x y=>decide (x<=y)
def Qf (l:List Str):List Str:=l.mergeSort fun x y=>decide (x<=y)
theorem Qo (l:List Nat):(Xp l).length=l.length:=by simp[Xp]
theorem Zkl (l:List Str):(Qf l).length=l.length:=by simp[Qf]
theorem Zsc (l:List Nat):(Xo l).mergeSort (fun x y=>decide (x<=y))=Xo (Xp l):=by
 unfold Xo Xp;rw[List.map_mergeSort];intro a _ b _;simp
def X3 (l:List Nat):List Nat:=(Lib.compact (Xo l)).map Int.toNat
theorem Zdu {zs:List Int} {x:Int} (h:x∈Lib.compact zs):x∈zs:=by
 simp only[Lib.compact,Lib.compactUpTo,List.mem_map,List.mem_filter,List.mem_range] at h;obtain⟨j,⟨hj,_⟩,rfl⟩:=h;rw[getElem!_pos zs.toArray j (by simpa using hj)];simp
theorem Zgi {zs:List Int}:∀ (i:Nat) (hi:i<zs.length),zs[i]∈Lib.compact zs:=by
 intro i
 induction i with
 |zero=>
  intro hi;simp only[Lib.compact,Lib.compactUpTo,List.mem_map,List.mem_filter,List.mem_range];exact⟨0,⟨hi,by simp[Lib.keeps]⟩,by rw[getElem!_pos zs.toArray 0 (by simpa using hi)];simp⟩
 |succ i ih=>
  intro hi
  by_cases hk:zs[i+1]=zs[i]
  ·rw[hk];exact ih (by omega)
  ·simp only[Lib.compact,Lib.compactUpTo,List.mem_map,List.mem_filter,List.mem_range];refine⟨i+1,⟨hi,?_⟩,by rw[getElem!_pos zs.toArray (i+1) (by simpa using hi)];simp⟩;refine Lib.keeps_pos ?_;rw[getElem!_pos zs.toArray (i+1) (by simpa using hi),Nat.add_sub_cancel,getElem!_pos zs.toArray i (by simp;omega)];simpa using hk
theorem Zld {zs:List Int} {x:Int}:x∈Lib.compact zs↔x∈zs:=
 ⟨Zdu,fun h=>by obtain⟨i,hi,rfl⟩:=List.mem_iff_getElem.1 h;exact Zgi i hi⟩
theorem Znu {zs:List Int} (h:zs.Pairwise (·<=·)):(Lib.compact zs).Pairwise (·<·):=by
 unfold Lib.compact Lib.compactUpTo;rw[List.pairwise_map];refine ((List.pairwise_lt_range (n:=zs.length)).filter _).imp_of_mem ?_;intro a b ha hb hab;simp only[List.mem_filter,List.mem_range] at ha hb;have hk:=hb.2;simp only[Lib.keeps,decide_eq_true_eq] at hk;have hk:zs.toArray[b]! ≠zs.toArray[b-1]! :=hk.resolve_left (by omega);have hb1:b-1<zs.length:=by omega
 rw[getElem!_pos zs.toArray b (by simpa using hb.1),getElem!_pos zs.toArray (b-1) (by simpa using hb1)] at hk;rw[getElem!_pos zs.toArray b (by simpa using hb.1),getElem!_pos zs.toArray a (by simpa using ha.1)];simp only[List.getElem_toArray] at hk ⊢;have hp:=List.pairwise_iff_getElem.1 h;have h1:zs[a]'ha.1<=zs[b-1]'hb1:=by
  by_cases e:a=b-1
  ·subst e;exact Int.le_refl _
  ·exact hp a (b-1) ha.1 hb1 (by omega)
 have h2:zs[b-1]'hb1<=zs[b]'hb.1:=hp (b-1) b hb1 hb.1 (by omega);omega
theorem Qg (l:List Nat):Lib.compact (Xo l)=Xo (X3 l):=by
 unfold X3 Xo;rw[List.map_map]
 conv=>lhs;rw[<-List.map_id (Lib.compact _)]
 refine List.map_congr_left fun x hx=>?_
 obtain⟨n,_,rfl⟩:=List.mem_map.1 (Zdu hx);simp
theorem Zsi {l:List Nat} {x:Nat}:x∈X3 l↔x∈l:=by
 have h:=Zld (zs:=Xo l) (x:=(x:Int));rw[Qg] at h;have e:∀ r:List Nat,((x:Int)∈Xo r↔x∈r):=fun r=>by simp[Xo,Int.natCast_inj]
 rwa [e,e] at h
theorem Zub {l:List Nat} (h:l.Pairwise (·<=·)):(X3 l).Pairwise (·<·):=by
 have h2:(Xo l).Pairwise (·<=·):=by
  unfold Xo;rw[List.pairwise_map];exact h.imp fun h=>by omega
 have h3:=Znu h2;rw[Qg] at h3;unfold Xo at h3;rw[List.pairwise_map] at h3;exact h3.imp fun h=>by omega
theorem Zjr (l:List Nat):(X3 l).length<=l.length:=by
 have:=Lib.compact_length_le (Xo l);rw[Qg] at this;simpa [Xo] using this
theorem Znt {l:List Nat} (h:l.Pairwise (·<·)):X3 l=l:=by
 have:Lib.compact (Xo l)=Xo l:=by
  refine Lib.compact_all _ fun j hj=>?_
  by_cases h0:j=0
  ·simp[Lib.keeps,h0]
  ·refine Lib.keeps_pos ?_;rw[getElem!_pos (Xo l).toArray j (by simpa using hj),getElem!_pos (Xo l).toArray (j-1) (by simp;omega)];have hj':j<l.length:=by simpa [Xo] using hj
   have:=List.pairwise_iff_getElem.1 h (j-1) j (by omega) hj' (by omega);simp[Xo];omega
 unfold X3;rw[this];simp[Xo,Function.comp_def]
theorem Zpn {l:List Nat} (h:l.Pairwise (·<=·)):Xp l=l:=List.mergeSort_of_pairwise (h.imp fun h=>by simpa using h)
theorem Zsk {l:List Nat} {x:Nat}:x∈Xp l↔x∈l:=by simp[Xp]
theorem Zwd (l:List Nat):(Xp l).Pairwise (·<=·):=by
 have:=List.pairwise_mergeSort (le:=fun x y:Nat=>decide (x<=y)) (fun a b c h1 h2=>by simp at*;omega) (fun a b=>by simp;omega) l;exact this.imp fun h=>by simpa using h
def Zfy (l:List Nat):List Nat:=X3 (Xp l)
theorem mem_formN {l:List Nat} {x:Nat}:x∈Zfy l↔x∈l:=by rw[Zfy,Zsi,Zsk]
theorem Zup (l:List Nat):(Zfy l).Pairwise (·<·):=Zub (Zwd l)
theorem Qn {base:Nat} {v:Value} {l:List Nat} {w:World} (h:w.ownsRow base 3 1 v l.length (l.map Z4)) (hb:l.length<4611686018427387904):
  Calls Tryz.prog 124 #[v] w fun e w'=>e=.returned (.tuple #[])/\w'.ownsRow base 3 1 v l.length ((Xp l).map Z4)/\w.grownBy w' v.ownBlock:=by
 have h':=h
 rcases h.2 with ⟨rfl,h0⟩|⟨g,cap,cur,rfl,hbase,hh,h1,h2,h3,h4⟩
 ·refine (Tryz.slices_Sort_int_none none 0 w).mono ?_;rintro e w' ⟨rfl,rfl⟩;have:l=[]:=List.eq_nil_of_length_eq_zero h0;subst this;exact⟨rfl,by simpa [Xp] using h',Lb _ _⟩
 ·have hH:=holds_of_blockI (ss:=Xo l) hh (by rw[Z3,<-Q3];simpa using h4);have hc:=Tryz.slices_Sort_int g 0 cap (Xo l) w hH (Array.getElem?_eq_some_iff.1 hh).1 (by rw[Z3];exact hb);rw[Z3] at hc;refine hc.mono ?_;rintro e w' ⟨rfl,n,os,rfl⟩;rw[Zsc];refine⟨rfl,?_,grownBy_sortedI _⟩;have:=ownsRow_sortedI (n:=n) (os:=os) (ss:=Xo l) (ts:=Xo (Xp l)) (by rw[Z3,Z3,Qo]) hbase hh (by rw[Z3];exact h1) h2 h3;rw[Z3,<-Q3] at this;exact this
theorem Jv {w:World} {base:Nat} {e:TypeId} {g n m cap:Nat} {xs ys:List Value} (h:w.ownsRow base e 1 (.slice (some ⟨g,0,none⟩) n cap) n (xs++ys)) (hm:xs.length=m):
  w.ownsRow base e 1 (.slice (some ⟨g,0,none⟩) m cap) m xs:=by
 obtain⟨hl,h2⟩:=h
 rcases h2 with ⟨h0,_⟩|⟨g',cap',cur,hv,hb,hh,h1,h2,h3,h4⟩
 ·cases h0
 ·cases hv
  simp only[List.length_append,Nat.mul_one] at hl h4;refine⟨by omega,.inr ⟨g,cap,cur,rfl,hb,hh,by omega,h2,h3,?_⟩⟩;have:(cur.toList.take n).take m=xs:=by rw[h4,<-hm];simp
  rw[List.take_take,Nat.min_eq_left (by omega)] at this
  rwa [Nat.mul_one]
theorem Vv {base:Nat} {v:Value} {l:List Nat} {w:World} (h:w.ownsRow base 3 1 v l.length (l.map Z4)):
  Calls Tryz.prog 125 #[v] w fun e w'=>∃ v',e=.returned v'/\w'.ownsRow base 3 1 v' (X3 l).length ((X3 l).map Z4)/\w.grownBy w' v.ownBlock/\v'.ownBlock=v.ownBlock:=by
 have h':=h
 rcases h.2 with ⟨rfl,h0⟩|⟨g,cap,cur,rfl,hbase,hh,h1,h2,h3,h4⟩
 ·refine (Tryz.slices_Compact_int_empty none 0 w).mono ?_;rintro e w' ⟨rfl,rfl⟩;have:l=[]:=List.eq_nil_of_length_eq_zero h0;subst this;exact⟨_,rfl,h',Lb _ _,rfl⟩
 ·have hH:=holds_of_blockI (ss:=Xo l) hh (by rw[Z3,<-Q3];simpa using h4);have hml:=h2;unfold maxLen at hml;have hc:=Tryz.slices_Compact_int g 0 cap (Xo l) w hH (by rw[Z3];omega) (by rw[Z3];exact h1);rw[Z3,Qg,Z3] at hc;refine hc.mono ?_;rintro e w' ⟨rfl,q,rfl⟩;have hl:=Zjr l;have:=ownsRow_sortedI (n:=q) (os:= #[]) (ss:=Xo l) (ts:=Xo (X3 l)++List.replicate (l.length-(X3 l).length) 0) (by rw[List.length_append,Z3,Z3,List.length_replicate];omega) hbase hh (by rw[Z3];exact h1) h2 h3;rw[Z3,List.map_append,<-Q3,Go.Sort.grow_empty] at this;refine⟨_,rfl,Jv this (by simp),?_,rfl⟩;have:=grownBy_sortedI (w:=w) (g:=g) (n:=q) (os:= #[]) (Xo (X3 l)++List.replicate (l.length-(X3 l).length) 0).toArray
  rwa [Go.Sort.grow_empty] at this
theorem getD_of_getElem? {α:Type} {l:List α} {j:Nat} {x d:α} (h:l[j]?=some x):l.getD j d=x:=by rw[List.getD,h];rfl
theorem Zhk {v:Value} {l:List Nat} {B:Nat} {w:World} (h:NatsAt w B v l) (hb:l.length*8<=140737488355328):
  Calls Tryz.prog 215 #[v] w fun e w'=>∃ v',e=.returned v'/\w'.ownsRow w.heap.size 3 1 v' l.length (l.map Z4)/\Below w.heap.size w w':=by
 obtain⟨A,c,rfl,h1,h2,h3⟩:=h
 rcases A with _|a
 ·have h0:l=[]:=by
   cases l with
   |nil=>rfl
   |cons x l=>obtain⟨_,_,e,_⟩:=h3 0 x rfl;cases e
  subst h0;refine (Tryz.slices_Clone_int_nil 0 c w).mono ?_;rintro e w' ⟨rfl,rfl⟩;exact⟨_,rfl,World.ownsRow_nil _ _ _ _,Below.refl _ _⟩
 ·by_cases h0:l=[]
  ·subst h0;refine (Tryz.slices_Clone_int_zero a c w).mono ?_;rintro e w' ⟨v',rfl,ho,_,hb'⟩;exact⟨_,rfl,ho,hb'⟩
  ·have hp:0<l.length:=List.length_pos_iff.2 h0;obtain⟨b,off,e,_,_⟩:=h3 0 _ (Ld hp);injection e with e
   subst e
   have hc:=Tryz.slices_Clone_int b off l.length c (Xo l) w (by rw[Z3];exact Lf _) hb (fun j hj=>by
    rw[Z3] at hj
    obtain⟨b',off',e,_,hr⟩:=h3 j _ (Ld hj)
    injection e with e
    injection e with e1 e2
    subst e1;subst e2
    have:=hr.1
    rw[Nat.mul_one] at this
    rw[this,getD_of_getElem? (x:=(l[j]:Int)) (by simp[Xo,hj])])
   refine hc.mono ?_;rintro e w' ⟨v',rfl,ho,_,hb'⟩;rw[List.take_of_length_le (by rw[Z3];exact Nat.le_refl _),<-Q3] at ho;exact⟨_,rfl,ho,hb'⟩
theorem Ux {v:Value} {l:List Str} {B:Nat} {w:World} (h:StrsAt w B v l) (hb:l.length*16<=140737488355328):
  Calls Tryz.prog 95 #[v] w fun e w'=>∃ v',e=.returned v'/\w'.ownsRow w.heap.size 9 1 v' l.length (l.map encS)/\Below w.heap.size w w':=by
 obtain⟨A,c,rfl,h1,h2,h3⟩:=h
 rcases A with _|a
 ·have h0:l=[]:=by
   cases l with
   |nil=>rfl
   |cons x l=>obtain⟨_,_,e,_⟩:=h3 0 x rfl;cases e
  subst h0;refine (Tryz.slices_Clone_string_nil 0 c w).mono ?_;rintro e w' ⟨rfl,rfl⟩;exact⟨_,rfl,World.ownsRow_nil _ _ _ _,Below.refl _ _⟩
 ·by_cases h0:l=[]
  ·subst h0;refine (Tryz.slices_Clone_string_zero a c w).mono ?_;rintro e w' ⟨v',rfl,ho,_,hb'⟩;exact⟨_,rfl,ho,hb'⟩
  ·have hp:0<l.length:=List.length_pos_iff.2 h0;obtain⟨b,off,e,_,_⟩:=h3 0 _ (Ld hp);injection e with e
   subst e
   have hc:=Tryz.slices_Clone_string b off l.length c (l.map fun s=>⟨s.toArray⟩) w (by simp) hb (fun j hj=>by
    rw[List.length_map] at hj
    obtain⟨b',off',e,_,hr⟩:=h3 j _ (Ld hj)
    injection e with e
    injection e with e1 e2
    subst e1;subst e2
    have:=hr.1
    rw[Nat.mul_one] at this
    rw[this,getD_of_getElem? (x:=⟨l[j].toArray⟩) (by simp[hj])])
   refine hc.mono ?_;rintro e w' ⟨v',rfl,ho,_,hb'⟩;rw[List.take_of_length_le (by simp),List.map_map] at ho;exact⟨_,rfl,ho,hb'⟩
theorem Zci {base:Nat} {v:Value} {l:List Str} {w:World} (h:w.ownsRow base 9 1 v l.length (l.map encS)) (hb:l.length<4611686018427387904):
  Calls Tryz.prog 136 #[v] w fun e w'=>e=.returned (.tuple #[])/\w'.ownsRow base 9 1 v l.length ((Qf l).map encS)/\w.grownBy w' v.ownBlock:=by
 have h':=h
 rcases h.2 with ⟨rfl,h0⟩|⟨g,cap,cur,rfl,hbase,hh,h1,h2,h3,h4⟩
 ·refine (Tryz.slices_Sort_string_none none 0 w).mono ?_;rintro e w' ⟨rfl,rfl⟩;have:l=[]:=List.eq_nil_of_length_eq_zero h0;subst this;exact⟨rfl,by simpa [Qf] using h',Lb _ _⟩
 ·have hH:=holds_of_block (ss:=l) hh (by rw[<-Zva];simpa using h4);have hc:=Tryz.slices_Sort_string g 0 cap l w hH (Array.getElem?_eq_some_iff.1 hh).1 hb;refine hc.mono ?_;rintro e w' ⟨rfl,n,os,rfl⟩;exact⟨rfl,ownsRow_sorted (n:=n) (os:=os) (ss:=l) (ts:=Qf l) (Zkl l) hbase hh h1 h2 h3,grownBy_sorted _⟩
theorem Zhu {v1 v2:Value} {l1 l2:List Str} {B1 B2:Nat} {w:World} (h1:StrsAt w B1 v1 l1) (h2:StrsAt w B2 v2 l2):
  Calls Tryz.prog 137 #[v1,v2] w fun e w'=>e=.returned (.bool (decide (l1=l2)))/\∃ q,w'=w.drewN q:=by
 obtain⟨A1,c1,rfl,a1,b1,d1⟩:=h1;obtain⟨A2,c2,rfl,a2,b2,d2⟩:=h2;unfold maxLen at b1 b2
 by_cases hl:l1.length=l2.length
 ·by_cases h0:l1=[]
  ·subst h0;have:l2=[]:=List.eq_nil_of_length_eq_zero hl.symm;subst this;refine (Tryz.slices_Equal_string_empty A1 A2 c1 0 c2 w (by omega)).mono ?_;rintro e w' ⟨rfl,rfl⟩;exact⟨rfl,0,rfl⟩
  ·have hp:0<l1.length:=List.length_pos_iff.2 h0;obtain⟨b,off,e,_,_⟩:=d1 0 _ (Ld hp);subst e;obtain⟨b',off',e,_,_⟩:=d2 0 _ (Ld (show 0<l2.length by omega));subst e;have hc:=Tryz.slices_Equal_string b off l1.length c1 b' off' l2.length c2 (l1.map fun s=>⟨s.toArray⟩) (l2.map fun s=>⟨s.toArray⟩) w (by simp) (by simp) (by omega) (by omega)
    (fun j hj=>by
     rw[List.length_map] at hj
     obtain⟨_,_,e,_,hr⟩:=d1 j _ (Ld hj)
     injection e with e
     injection e with e1 e2
     subst e1;subst e2
     have:=hr.1
     rw[Nat.mul_one] at this
     rw[this,getD_of_getElem? (x:=⟨l1[j].toArray⟩) (by simp[hj])])
    (fun j hj=>by
     rw[List.length_map] at hj
     obtain⟨_,_,e,_,hr⟩:=d2 j _ (Ld hj)
     injection e with e
     injection e with e1 e2
     subst e1;subst e2
     have:=hr.1
     rw[Nat.mul_one] at this
     rw[this,getD_of_getElem? (x:=⟨l2[j].toArray⟩) (by simp[hj])])
   refine hc.mono ?_;rintro e w' ⟨rfl,hq⟩;refine⟨?_,hq⟩;rw[List.take_of_length_le (by simp),List.take_of_length_le (by simp)]
   congr 2
   rw[decide_eq_decide];constructor
   ·intro h;have hi:Function.Injective (fun s:Str=>(⟨s.toArray⟩:ByteArray)):=fun a b e=>by
     simpa using e
    exact List.map_inj_right (fun a b e=>hi e) |>.1 h
   ·intro h;rw[h]
 ·refine (Tryz.slices_Equal_string_lens A1 A2 _ c1 _ c2 w hl).mono ?_;rintro e w' ⟨rfl,rfl⟩;exact⟨by rw[decide_eq_false (fun e=>hl (by rw[e]))],0,rfl⟩
end
section
open Go.RowKit
def OwnG (base:Nat) (w:World) (S:Nat) (L:List (List Nat)):Prop:=
 ∃ vs:List Value,vs.length=L.length/\w.heap[S]?=some (.cells vs.toArray 84 (0,0))/\S<base/\
  (∀ (j:Nat) (v:Value) (l:List Nat),vs[j]?=some v->L[j]?=some l->w.ownsRow base 3 1 v l.length (l.map Z4))/\
  (∀ (i j:Nat) (v u:Value),i≠j->vs[i]?=some v->vs[j]?=some u->v.ownBlock=none\/v.ownBlock≠u.ownBlock)
theorem OwnG.lt {base S:Nat} {w:World} {L:List (List Nat)} (h:OwnG base w S L):S<w.heap.size:=by
 obtain⟨vs,_,hh,_⟩:=h;exact Ze hh
theorem OwnG.kept {base S:Nat} {w w':World} {L:List (List Nat)} (h:OwnG base w S L) (hg:w.grownBy w' none):OwnG base w' S L:=by
 obtain⟨vs,h1,hh,h2,h3,h4⟩:=h;exact⟨vs,h1,(hg.block S (Ze hh) (by simp)).trans hh,h2,fun j v l a b=>(h3 j v l a b).kept hg (by cases v.ownBlock<;>simp),h4⟩
theorem OwnG.below {base S:Nat} {w w':World} {L:List (List Nat)} (h:OwnG base w S L) (hb:Below w.heap.size w w'):OwnG base w' S L:=h.kept (Zj hb)
theorem OwnG.read {base S k:Nat} {w:World} {L:List (List Nat)} {l:List Nat} (h:OwnG base w S L) (hk:L[k]?=some l):
  ∃ v,w.cell? ⟨S,k,none⟩=some v/\w.frozen? ⟨S,k,none⟩=false/\w.ownsRow base 3 1 v l.length (l.map Z4):=by
 obtain⟨vs,h1,hh,h2,h3,h4⟩:=h;have hlt:k<vs.length:=by rw[h1];exact (Le hk).1
 obtain⟨k1,k2⟩:=Za hh;refine⟨vs[k],?_,k2 k,h3 k _ _ (Ld hlt) hk⟩;rw[k1];simp[hlt]
theorem OwnG.put {base S k:Nat} {w w':World} {L:List (List Nat)} {l l':List Nat} {v v':Value} (h:OwnG base w S L) (hk:L[k]?=some l) (hv:w.cell? ⟨S,k,none⟩=some v)
  (hg:w.grownBy w' v.ownBlock) (ho:w'.ownsRow base 3 1 v' l'.length (l'.map Z4)) (hv':v'.ownBlock=v.ownBlock\/∀ b,v'.ownBlock=some b->w.heap.size<=b) (hn:v'.oneCell'=true):
  OwnG base (w'.setCell ⟨S,k,none⟩ v') S (L.set k l')/\w'.grownBy (w'.setCell ⟨S,k,none⟩ v') (some S):=by
 obtain⟨vs,h1,hh,h2,h3,h4⟩:=h;have hlt:k<vs.length:=by rw[h1];exact (Le hk).1
 have hvk:vs[k]?=some v:=by
  rw[(Za hh).1] at hv;simpa using hv
 have hS:S<w.heap.size:=Ze hh;have hne:some S≠v.ownBlock:=fun e=>by
  have:=(h3 k v l hvk hk).lt S e.symm;omega
 have hh':w'.heap[S]?=some (.cells vs.toArray 84 (0,0)):=(hg.block S hS hne).trans hh;have hset:(w'.setCell ⟨S,k,none⟩ v').heap[S]?=some (.cells (vs.set k v').toArray 84 (0,0)):=by
  rw[show (vs.set k v').toArray=vs.toArray.setIfInBounds k v' by simp];simp[World.setCell,Array.getElem?_modify,hh']
 have hgs:w'.grownBy (w'.setCell ⟨S,k,none⟩ v') (some S):=Zn (Lb _ _) rfl _;have hown:∀ {u:Value} {x:List Nat},w'.ownsRow base 3 1 u x.length (x.map Z4)->(w'.setCell ⟨S,k,none⟩ v').ownsRow base 3 1 u x.length (x.map Z4):=fun hu=>
  hu.kept hgs (by
   rename_i u x
   cases e:u.ownBlock with
   |none=>exact .inl rfl
   |some b=>exact .inr fun e2=>by
             have:=hu.lt b e
             simp at e2
             omega)
 refine⟨⟨vs.set k v',by simp[h1],hset,h2,fun j u x hu hx=>?_,fun i j a b hij ha hb=>?_⟩,hgs⟩
 ·by_cases e:k=j
  ·subst e;rw[List.getElem?_set_self hlt] at hu;rw[List.getElem?_set_self (by omega)] at hx;injection hu with hu
   injection hx with hx
   subst hu;subst hx;exact hown ho
  ·rw[List.getElem?_set_ne e] at hu hx;have hd:=h4 j k u v (fun e2=>e e2.symm) hu hvk;exact hown ((h3 j u x hu hx).kept hg hd)
 ·have key:∀ j u,j≠k->vs[j]?=some u->(v'.ownBlock=none\/v'.ownBlock≠u.ownBlock)/\(u.ownBlock=none\/u.ownBlock≠v'.ownBlock):=by
   intro j u hj hu;have hjl:j<L.length:=by rw[<-h1];exact (Le hu).1
   rcases hv' with e|hb'
   ·rw[e];exact⟨h4 k j v u (fun e=>hj e.symm) hvk hu,h4 j k u v hj hu hvk⟩
   ·cases e:v'.ownBlock with
    |none=>exact⟨.inl rfl,by cases u.ownBlock<;>simp⟩
    |some b=>
     have h5:=hb' b e
     cases e2:u.ownBlock with
     |none=>exact⟨.inr (by simp),.inl rfl⟩
     |some c=>
      have:=(h3 j u _ hu (Ld hjl)).lt c e2;exact⟨.inr (by simp;omega),.inr (by simp;omega)⟩
  by_cases e:k=i
  ·subst e;rw[List.getElem?_set_self hlt] at ha;injection ha with ha
   subst ha;rw[List.getElem?_set_ne hij] at hb;exact (key j b (fun e=>hij e.symm) hb).1
  ·rw[List.getElem?_set_ne e] at ha
   by_cases e2:k=j
   ·subst e2;rw[List.getElem?_set_self hlt] at hb;injection hb with hb
    subst hb;exact (key i a hij ha).2
   ·rw[List.getElem?_set_ne e2] at hb;exact h4 i j a b hij ha hb
theorem OwnG.made (w:World) (n base:Nat) (hb:w.heap.size<base):OwnG base (w.alloc (.cells (Array.replicate n (.slice none 0 0)) 84)) w.heap.size (List.replicate n []):=by
 refine⟨List.replicate n (.slice none 0 0),by simp,by rw[List.toArray_replicate];exact La w _,by omega,fun j v l hv hl=>?_,fun i j v u _ hv hu=>?_⟩
 ·rw[List.getElem?_replicate] at hv hl
  by_cases hj:j<n
  ·rw[if_pos hj] at hv hl
   cases hv
   cases hl
   exact World.ownsRow_nil _ _ _ _
  ·rw[if_neg hj] at hv
   cases hv
 ·rw[List.getElem?_replicate] at hv
  split at hv<;>cases hv
  exact .inl rfl
theorem Ju {w:World} {base:Nat} {v:Value} {l:List Nat} (h:w.ownsRow base 3 1 v l.length (l.map Z4)) (hl:∀ s∈l,s<=9223372036854775807):NatsAt w w.heap.size v l:=
 SlAt.of_own Z4 h fun _ _ x hx hc=>⟨hc,hl x hx⟩
theorem OwnG.graph {base S n:Nat} {w:World} {L:List (List Nat)} (h:OwnG base w S L) (hn:n=L.length) (hm:n<=maxLen) (hl:∀ r∈L,∀ x∈r,x<=9223372036854775807):GraphAt w w.heap.size (.slice (some ⟨S,0,none⟩) n n) L:=by
 subst hn;refine⟨_,_,rfl,Lf _,hm,fun k x hx=>⟨S,0,rfl,h.lt,?_⟩⟩;obtain⟨v,hc,_,ho⟩:=h.read hx;rw[Nat.mul_one,Nat.zero_add];exact⟨v,hc,Ju ho (hl x (Ll hx))⟩
theorem Zcy {w:World} {base base':Nat} {e:TypeId} {v:Value} {n:Nat} {xs:List Value} (h:w.ownsRow base e 1 v n xs) (hb:base'<=base):w.ownsRow base' e 1 v n xs:=
 ⟨h.1,h.2.imp id fun ⟨g,cap,cur,e,h1,r⟩=>⟨g,cap,cur,e,Nat.le_trans hb h1,r⟩⟩
theorem Zvs {w:World} {base:Nat} {e:TypeId} {v:Value} {n:Nat} {xs:List Value} (h:w.ownsRow base e 1 v n xs):v.oneCell'=true:=by
 rcases h.2 with ⟨rfl,_⟩|⟨g,cap,cur,rfl,_⟩<;>rfl
theorem Qp {α:Type} {g:List α} {k:Nat} {r z:α} (h:g[k]?=some r):(g.take k++List.replicate (g.length-k) z).set k r=g.take (k+1)++List.replicate (g.length-(k+1)) z:=by
 have hk:=(Le h).1;have hl:(g.take k).length=k:=by simp;omega
 rw[List.set_append_right _ _ (by omega),hl,Nat.sub_self,show g.length-k=(g.length-(k+1))+1 by omega,List.replicate_succ,Lh,List.take_add_one,h];simp
theorem Jg {α:Type} {g:List α} {k:Nat} {z:α} (hk:k<g.length):(g.take k++List.replicate (g.length-k) z)[k]?=some z:=by
 have hl:(g.take k).length=k:=by simp;omega
 rw[List.getElem?_append_right (by omega),hl,Nat.sub_self,List.getElem?_replicate,if_pos (by omega)]
theorem Z5 {w:World} {base:Nat} {e:TypeId} {v:Value} {n:Nat} {xs:List Value} (h:w.ownsRow base e 1 v n xs):∃ A c,v=.slice A n c/\n<=c/\c<=9223372036854775807/\(A=none->n=0/\c=0)/\(∀ a,A=some a->a=⟨a.block,0,none⟩/\base<=a.block/\a.block<w.heap.size):=by
 rcases h.2 with ⟨rfl,h0⟩|⟨g,cap,cur,rfl,hb,hh,h1,h2,_⟩
 ·exact⟨none,0,by rw[h0],by omega,by omega,(fun _=>⟨h0,rfl⟩),(fun a e=>by cases e)⟩
 ·unfold maxLen at h2;exact⟨_,_,rfl,h1,by omega,(fun e=>by cases e),(fun a e=>by cases e;exact⟨rfl,hb,Ze hh⟩)⟩
theorem Jh {P:Program} {w:World} {ops:Array Oper} {rest:List Oper} {o:Oper} {a:Act} {Q:Exit->Act->World->Prop} (hgd:o.guard=none) (s x:Operand) (t:TypeId)
  (ho:o.op=.call { callee:=.builtin .append,args:= #[s,x],argTypes:= #[t,t] })
  (base:Nat) (e:TypeId) (z:Value) (bytes:Nat) (ht:P.underlying t=some (.slice e)) (hinfo:(P.info? e).map (fun i=>(i.zero,i.size,i.bytes))=some (some z,1,bytes)) (hzs:z.cells.size=1)
  (v:Value) (xs:List Value) (n:Nat) (hs:a.eval s=v) (hown:w.ownsRow base e 1 v n xs)
  (b:Nat) (u:Value) (hu:u.oneCell'=true) (hx:a.eval x=.slice (some ⟨b,0,none⟩) 1 1) (hc:w.cell? ⟨b,0,none⟩=some u)
  (h63:n+1<=maxLen) (hbytes:(n+1)*bytes<=140737488355328) (hbase:base<=w.heap.size)
  (h:∀ g c w',w'.ownsRow base e 1 (.slice (some ⟨g,0,none⟩) (n+1) c) (n+1) (xs++[u])->w.grownBy w' v.ownBlock->(v.ownBlock=some g\/g=w.heap.size)->wpList P ops Q rest (a.put o.dst (.slice (some ⟨g,0,none⟩) (n+1) c)) w'):
  wpList P ops Q (o::rest) a w:=by
 obtain⟨i,hi,hz0,hz1,hz2⟩:=info_parts hinfo;have hnews:∀ j u',[u][j]?=some u'->w.cell? ((⟨b,0,none⟩:Addr).add j)=some u':=by
  intro j u' hj
  cases j with
  |zero=>simp at hj;subst hj;simpa [Addr.add] using hc
  |succ j=>simp at hj
 obtain⟨v',w',hrun,h2,h3,h4,h5⟩:=run_append_own_at (P:=P) w base t o.type e i z 1 bytes ht hi hz0 hz1 hz2 hzs (by decide) v n xs hown ⟨b,0,none⟩ 1 1 [u] (by simp) hnews
  (by intro u' hu';simp at hu';subst hu';exact hu) h63 hbytes hbase
 refine wpList_plain hgd fun K hK=>?_
 have key:∃ g c,v'=.slice (some ⟨g,0,none⟩) (n+1) c:=by
  rcases h2.2 with ⟨_,h0⟩|⟨g,cap,cur,e1,_⟩
  ·omega
  ·exact⟨g,cap,e1⟩
 obtain⟨g,c,rfl⟩:=key
 have h6:=hK _ _ (h g c w' h2 h3 (by
  rcases h5 with h5|h5
  ·exact .inl h5.symm
  ·right;simpa [Value.ownBlock] using h5))
 unfold Oper.wp execOp;simp only[ho,resolve,invoke,builtin,Sem.run_bind,Sem.run_pure,Result.andThen_ok,List.map_toArray,List.map_cons,List.map_nil,hs,hx,hrun];exact h6
theorem Jc {w:World} {base:Nat} {A:Option Addr} {n c k:Nat} {l:List Nat} {x:Nat} (h:w.ownsRow base 3 1 (.slice A n c) n (l.map Z4)) (hk:l[k]?=some x):
  ∃ b,A=some ⟨b,0,none⟩/\base<=b/\b<w.heap.size/\w.cell? ⟨b,k,none⟩=some (.int .i64 x):=by
 have hn:n=l.length:=by have:=h.1;simpa using this.symm
 have hlt:=(Le hk).1;obtain⟨A',c',e,_,_,h0,h1⟩:=Z5 h;injection e with e1 e2 e3
 subst e1;subst e3
 cases A with
 |none=>have:=(h0 rfl).1;omega
 |some a=>
  obtain⟨e4,h5,h6⟩:=h1 a rfl;rw[e4] at h;refine⟨a.block,by rw[<-e4],h5,h6,?_⟩;have:=h.cellAt k (by omega);rw[this];simp[(List.getElem?_eq_some_iff.1 hk).2,Z4,hlt]
def Betw (a b:Nat) (w0 W:World):Prop:=∀ k,a<=k->k<b->W.heap[k]?=w0.heap[k]?
theorem Betw.cell {a b k o:Nat} {w0 W:World} {v:Value} (h:Betw a b w0 W) (h1:a<=k) (h2:k<b) (hc:w0.cell? ⟨k,o,none⟩=some v):W.cell? ⟨k,o,none⟩=some v:=(Lj (h k h1 h2)).trans hc
theorem Betw.grown {a b:Nat} {w0 W W':World} {row:Option Nat} (h:Betw a b w0 W) (hg:W.grownBy W' row) (hb:b<=W.heap.size) (hr:∀ r,row=some r->r<a\/b<=r):Betw a b w0 W':=
 fun k h1 h2=>(hg.block k (by omega) (fun e=>by have:=hr k e.symm;omega)).trans (h k h1 h2)
theorem Vr {w:World} {g:Nat} {cs:Array Value} {t:TypeId} (h:w.heap[g]?=some (.cells cs t (0,0))) (i:Nat) (u:Value):(w.setCell ⟨g,i,none⟩ u).heap[g]?=some (.cells (cs.setIfInBounds i u) t (0,0)):=by
 simp[World.setCell,Array.getElem?_modify,h]
theorem Zkj {P:Program} (w:World) (t e:TypeId) (z:Value) (bytes:Nat) (ht:P.underlying t=some (.slice e)) (hinfo:(P.info? e).map (fun i=>(i.zero,i.size,i.bytes))=some (some z,1,bytes)) (hz:z.cells= #[z]) (n:Nat) (hb:bytes*n<=281474976710656) (hn:n<=9223372036854775807):
  (Instr.makeSlice t (.int .i64 n) (.int .i64 n)).run P w=.ok (.slice (some ⟨w.heap.size,0,none⟩) n n) (w.alloc (.cells (Array.replicate n z) e)):=by
 obtain⟨i,hi,hz0,hz1,hz2⟩:=info_parts hinfo;have:=run_make (P:=P) w t e i z ht hi hz0 .i64 .i64 n n (by omega) (by omega) (by rw[hz2];omega) (by omega);rw[this];simp only[Int.toNat_natCast];have e1:madeCells z.cells (n*i.size)=Array.replicate n z:=by
  rw[hz1,hz,Nat.mul_one]
  apply Array.ext
  ·simp[madeCells]
  ·intro j h1 h2;simp[madeCells,Nat.mod_one]
 rw[e1]
theorem rowInfo:(Tryz.prog.info? 84).map (fun i=>(i.zero,i.size,i.bytes))=some (some (.slice none 0 0),1,24):=by kernel_rfl
theorem Zjx:(Tryz.prog.info? 3).map (fun i=>(i.zero,i.size,i.bytes))=some (some (.int .i64 0),1,8):=by kernel_rfl
theorem Ztw:(Tryz.prog.info? 4).map (fun i=>(i.zero,i.size,i.bytes))=some (some (.bool false),1,1):=by kernel_rfl
theorem Zbd (n:Nat) (hn:n<=65536) (w:World):(Instr.makeSlice 141 (.int .i64 n) (.int .i64 n)).run Tryz.prog w=.ok (.slice (some ⟨w.heap.size,0,none⟩) n n) (w.alloc (.cells (Array.replicate n (.slice none 0 0)) 84)):=
 Zkj w _ _ _ _ Tryz.underlying141 rowInfo rfl n (by omega) (by omega)
theorem Zgs (n:Nat) (hn:n<=65536) (w:World):(Instr.makeSlice 84 (.int .i64 n) (.int .i64 n)).run Tryz.prog w=.ok (.slice (some ⟨w.heap.size,0,none⟩) n n) (w.alloc (.cells (Array.replicate n (.int .i64 0)) 3)):=
 Zkj w _ _ _ _ Tryz.underlying84 Zjx rfl n (by omega) (by omega)
theorem Zee (n:Nat) (hn:n<=65536) (w:World):(Instr.makeSlice 193 (.int .i64 n) (.int .i64 n)).run Tryz.prog w=.ok (.slice (some ⟨w.heap.size,0,none⟩) n n) (w.alloc (.cells (Array.replicate n (.bool false)) 4)):=
 Zkj w _ _ _ _ Tryz.underlying193 Ztw rfl n (by omega) (by omega)
theorem X2 {w:World} {ops:Array Oper} {rest:List Oper} {o:Oper} {a:Act} {Q:Exit->Act->World->Prop} (hgd:o.guard=none) (s x:Operand)
  (ho:o.op=.call { callee:=.builtin .append,args:= #[s,x],argTypes:= #[84,84] })
  (base:Nat) (v:Value) (l:List Nat) (hs:a.eval s=v) (hown:w.ownsRow base 3 1 v l.length (l.map Z4))
  (b:Nat) (u:Nat) (hx:a.eval x=.slice (some ⟨b,0,none⟩) 1 1) (hc:w.cell? ⟨b,0,none⟩=some (.int .i64 u))
  (hlen:l.length<=1099511627776) (hbase:base<=w.heap.size)
  (h:∀ g c w',w'.ownsRow base 3 1 (.slice (some ⟨g,0,none⟩) (l.length+1) c) (l++[u]).length ((l++[u]).map Z4)->w.grownBy w' v.ownBlock->(v.ownBlock=some g\/g=w.heap.size)->wpList Tryz.prog ops Q rest (a.put o.dst (.slice (some ⟨g,0,none⟩) (l.length+1) c)) w'):
  wpList Tryz.prog ops Q (o::rest) a w:=
 Jh hgd s x 84 ho base 3 (.int .i64 0) 8 Tryz.underlying84 Zjx rfl v _ l.length hs hown b (Z4 u) rfl hx hc (by unfold maxLen;omega) (by omega) hbase
  fun g c w' h1 h2 h3=>h g c w' (by rw[List.length_append,List.map_append];exact h1) h2 h3
end
section
open Go.RowKit
theorem Zck {P:Program} {w:World} {ops:Array Oper} {rest:List Oper} {o:Oper} {a:Act} {Q:Exit->Act->World->Prop} (hgd:o.guard=none) (s x:Operand) (t:TypeId)
  (ho:o.op=.call { callee:=.builtin .append,args:= #[s,x],argTypes:= #[t,t] })
  (base:Nat) (e:TypeId) (z:Value) (size bytes:Nat) (ht:P.underlying t=some (.slice e)) (hinfo:(P.info? e).map (fun i=>(i.zero,i.size,i.bytes))=some (some z,size,bytes)) (hzs:z.cells.size=size) (hsz:0<size)
  (v:Value) (xs:List Value) (n:Nat) (hs:a.eval s=v) (hown:w.ownsRow base e size v n xs)
  (b:Nat) (news:List Value) (hl:news.length=size) (hu:∀ u∈news,u.oneCell'=true) (hx:a.eval x=.slice (some ⟨b,0,none⟩) 1 1) (cs:Array Value) (tb:TypeId) (hb:w.heap[b]?=some (.cells cs tb (0,0))) (hcs:cs.toList=news)
  (h63:n+1<=maxLen) (hbytes:(n+1)*bytes<=140737488355328) (hbase:base<=w.heap.size)
  (h:∀ g c w',w'.ownsRow base e size (.slice (some ⟨g,0,none⟩) (n+1) c) (n+1) (xs++news)->w.grownBy w' v.ownBlock->(v.ownBlock=some g\/g=w.heap.size)->wpList P ops Q rest (a.put o.dst (.slice (some ⟨g,0,none⟩) (n+1) c)) w'):
  wpList P ops Q (o::rest) a w:=by
 obtain⟨i,hi,hz0,hz1,hz2⟩:=info_parts hinfo;have hnews:∀ j u',news[j]?=some u'->w.cell? ((⟨b,0,none⟩:Addr).add j)=some u':=by
  intro j u' hj;have:w.cell? ⟨b,j,none⟩=some u':=by rw[(Za hb).1,<-Array.getElem?_toList,hcs];exact hj
  unfold Addr.add
  split
  ·rename_i hj0;subst hj0;exact this
  ·simpa using this
 obtain⟨v',w',hrun,h2,h3,h4,h5⟩:=run_append_own_at (P:=P) w base t o.type e i z size bytes ht hi hz0 hz1 hz2 hzs hsz v n xs hown ⟨b,0,none⟩ 1 1 news (by simpa using hl) hnews hu h63 hbytes hbase;refine wpList_plain hgd fun K hK=>?_
 have key:∃ g c,v'=.slice (some ⟨g,0,none⟩) (n+1) c:=by
  rcases h2.2 with ⟨_,h0⟩|⟨g,cap,cur,e1,_⟩
  ·omega
  ·exact⟨g,cap,e1⟩
 obtain⟨g,c,rfl⟩:=key
 have h6:=hK _ _ (h g c w' h2 h3 (by
  rcases h5 with h5|h5
  ·exact .inl h5.symm
  ·right;simpa [Value.ownBlock] using h5))
 unfold Oper.wp execOp;simp only[ho,resolve,invoke,builtin,Sem.run_bind,Sem.run_pure,Result.andThen_ok,List.map_toArray,List.map_cons,List.map_nil,hs,hx,hrun];exact h6
theorem Ztf {P:Program} {w:World} (t ty:TypeId) (base:Nat) (e:TypeId) (z:Value) (size bytes:Nat) (ht:P.underlying t=some (.slice e)) (hinfo:(P.info? e).map (fun i=>(i.zero,i.size,i.bytes))=some (some z,size,bytes)) (hzs:z.cells.size=size) (hsz:0<size)
  (v:Value) (xs:List Value) (n:Nat) (hown:w.ownsRow base e size v n xs)
  (b:Nat) (news:List Value) (hl:news.length=size) (hu:∀ u∈news,u.oneCell'=true) (cs:Array Value) (tb:TypeId) (hb:w.heap[b]?=some (.cells cs tb (0,0))) (hcs:cs.toList=news)
  (h63:n+1<=maxLen) (hbytes:(n+1)*bytes<=140737488355328) (hbase:base<=w.heap.size):
  ∃ g c w',(Builtin.append_ #[t,t] ty #[v,.slice (some ⟨b,0,none⟩) 1 1]).run P w=.ok (.slice (some ⟨g,0,none⟩) (n+1) c) w'/\w'.ownsRow base e size (.slice (some ⟨g,0,none⟩) (n+1) c) (n+1) (xs++news)/\w.grownBy w' v.ownBlock/\(v.ownBlock=some g\/g=w.heap.size):=by
 obtain⟨i,hi,hz0,hz1,hz2⟩:=info_parts hinfo;have hnews:∀ j u',news[j]?=some u'->w.cell? ((⟨b,0,none⟩:Addr).add j)=some u':=by
  intro j u' hj;have:w.cell? ⟨b,j,none⟩=some u':=by rw[(Za hb).1,<-Array.getElem?_toList,hcs];exact hj
  unfold Addr.add
  split
  ·rename_i hj0;subst hj0;exact this
  ·simpa using this
 obtain⟨v',w',hrun,h2,h3,h4,h5⟩:=run_append_own_at (P:=P) w base t ty e i z size bytes ht hi hz0 hz1 hz2 hzs hsz v n xs hown ⟨b,0,none⟩ 1 1 news (by simpa using hl) hnews hu h63 hbytes hbase;have key:∃ g c,v'=.slice (some ⟨g,0,none⟩) (n+1) c:=by
  rcases h2.2 with ⟨_,h0⟩|⟨g,cap,cur,e1,_⟩
  ·omega
  ·exact⟨g,cap,e1⟩
 obtain⟨g,c,rfl⟩:=key
 exact⟨g,c,w',hrun,h2,h3,by
  rcases h5 with h5|h5
  ·exact .inl h5.symm
  ·right;simpa [Value.ownBlock] using h5⟩
theorem Uw {P:Program} {w:World} {ops:Array Oper} {o:Oper} {a:Act} {K:Act->World->Prop} {Q:Exit->Act->World->Prop} {E:Prop} (hgd:o.guard=none) (s x:Operand) (t:TypeId)
  (ho:o.op=.call { callee:=.builtin .append,args:= #[s,x],argTypes:= #[t,t] })
  (base:Nat) (e:TypeId) (z:Value) (size bytes:Nat) (ht:P.underlying t=some (.slice e)) (hinfo:(P.info? e).map (fun i=>(i.zero,i.size,i.bytes))=some (some z,size,bytes)) (hzs:z.cells.size=size) (hsz:0<size)
  (v:Value) (xs:List Value) (n:Nat) (hs:a.eval s=v) (hown:w.ownsRow base e size v n xs)
  (b:Nat) (news:List Value) (hl:news.length=size) (hu:∀ u∈news,u.oneCell'=true) (hx:a.eval x=.slice (some ⟨b,0,none⟩) 1 1) (cs:Array Value) (tb:TypeId) (hb:w.heap[b]?=some (.cells cs tb (0,0))) (hcs:cs.toList=news)
  (h63:n+1<=maxLen) (hbytes:(n+1)*bytes<=140737488355328) (hbase:base<=w.heap.size)
  (h:∀ g c w',w'.ownsRow base e size (.slice (some ⟨g,0,none⟩) (n+1) c) (n+1) (xs++news)->w.grownBy w' v.ownBlock->(v.ownBlock=some g\/g=w.heap.size)->K (a.put o.dst (.slice (some ⟨g,0,none⟩) (n+1) c)) w'):
  if Region.wanted o (yielded ops a.tmps)=true then Oper.wp P o a w K Q else E:=by
 have hw:Region.wanted o (yielded ops a.tmps)=true:=by simp[Region.wanted,hgd]
 rw[if_pos hw];obtain⟨g,c,w',hrun,h1,h2,h3⟩:=Ztf (P:=P) t o.type base e z size bytes ht hinfo hzs hsz v xs n hown b news hl hu cs tb hb hcs h63 hbytes hbase;have h6:=h g c w' h1 h2 h3;unfold Oper.wp execOp;simp only[ho,resolve,invoke,builtin,Sem.run_bind,Sem.run_pure,Result.andThen_ok,List.map_toArray,List.map_cons,List.map_nil,hs,hx,hrun];exact h6
theorem Xm {w:World} {base:Nat} {e:TypeId} {size n c g:Nat} {xs:List Value} (h:w.ownsRow base e size (.slice (some ⟨g,0,none⟩) n c) n xs):base<=g/\g<w.heap.size/\n<=c/\c<=maxLen/\∀ j u,xs[j]?=some u->w.cell? ⟨g,j,none⟩=some u:=by
 obtain⟨hl,h2⟩:=h
 rcases h2 with ⟨e1,_⟩|⟨g',cap,cur,e1,hb,hh,hc,hm,hcs,ht⟩
 ·cases e1
 ·injection e1 with e1 e2 e3
  injection e1 with e1
  injection e1 with e1
  subst e1;subst e3;refine⟨hb,Ze hh,hc,hm,fun j u hu=>?_⟩;rw[(Za hh).1];have hj:j<xs.length:=(Le hu).1;rw[<-ht,List.getElem?_take_of_lt (by omega)] at hu;simpa using hu
theorem Zz {w:World} {base:Nat} {e:TypeId} {size:Nat} {v:Value} {n:Nat} {xs:List Value} (h:w.ownsRow base e size v n xs):∃ A c,v=.slice A n c/\n<=c/\c<=maxLen/\(A=none->n=0/\c=0)/\(∀ a,A=some a->a=⟨a.block,0,none⟩/\base<=a.block/\a.block<w.heap.size):=by
 rcases h.2 with ⟨rfl,h0⟩|⟨g,cap,cur,rfl,hb,hh,h1,h2,_⟩
 ·exact⟨none,0,by rw[h0],by omega,by unfold maxLen;omega,(fun _=>⟨h0,rfl⟩),(fun a e=>by cases e)⟩
 ·exact⟨_,_,rfl,h1,h2,(fun e=>by cases e),(fun a e=>by cases e;exact⟨rfl,hb,Ze hh⟩)⟩
theorem Qz {α:Type} {f:α->List Value} {sz:Nat}:∀ {l:List α} {k j:Nat} {x:α},(∀ x∈l,(f x).length=sz)->l[k]?=some x->j<sz->(l.flatMap f)[k*sz+j]?=(f x)[j]?
 |[],k,j,x,_,h,_=>by simp at h
 |y::l,0,j,x,hl,h,hj=>by
  simp only[List.getElem?_cons_zero,Option.some.injEq] at h;subst h;rw[List.flatMap_cons,List.getElem?_append_left (by rw[hl _ (by simp)];omega)];simp
 |y::l,k+1,j,x,hl,h,hj=>by
  have:=Qz (f:=f) (l:=l) (k:=k) (fun z hz=>hl z (List.mem_cons_of_mem _ hz)) (by simpa using h) hj;have hy:=hl y (by simp);rw[List.flatMap_cons,List.getElem?_append_right (by rw[hy,Nat.succ_mul];omega),hy,<-this]
  congr 1
  rw[Nat.succ_mul];omega
theorem SlAt.of_ownN {α:Type} {R:Rdr α} {w W:World} {base B:Nat} {e:TypeId} {v:Value} {n sz:Nat} {xs:List Value} {l:List α} (h:w.ownsRow base e sz v n xs) (hn:n=l.length) (hB:∀ g,v.ownBlock=some g->g<B)
  (hR:∀ g k x,v.ownBlock=some g->l[k]?=some x->R W B g (k*sz) x):SlAt R sz W B v l:=by
 subst hn;obtain⟨A,c,rfl,hc,hm,h0,h1⟩:=Zz h
 cases A with
 |none=>
  have:l=[]:=List.eq_nil_of_length_eq_zero (h0 rfl).1;subst this;rw[(h0 rfl).2];exact SlAt.nil_ R sz W B
 |some a=>
  obtain⟨e1,h2,h3⟩:=h1 a rfl;rw[e1] at hB hR ⊢;exact⟨_,c,rfl,hc,hm,fun k x hx=>⟨_,0,rfl,hB _ rfl,by rw[Nat.zero_add];exact hR _ k x rfl hx⟩⟩
def CodeX (w:World) (G:Option Nat) (vc:Value) (code:List GIns):Prop:=
 ∀ (W:World) (B:Nat),w.heap.size<=B->(∀ b o v,b<w.heap.size->some b≠G->w.cell? ⟨b,o,none⟩=some v->W.cell? ⟨b,o,none⟩=some v)->CodeAt W B vc code
theorem CodeX.keep {w w':World} {G G':Option Nat} {vc:Value} {code:List GIns} (h:CodeX w G vc code) (hg:w.grownBy w' G) (hG:G'=G\/∀ g,G'=some g->w.heap.size<=g):CodeX w' G' vc code:=by
 intro W B hB hW;refine h W B (Nat.le_trans hg.size hB) fun b o v hb hne hc=>hW b o v (Lm hb hg.size) ?_ ?_
 ·rcases hG with rfl|hG
  ·exact hne
  ·intro e;have:=hG b e.symm;omega
 ·exact (Lj (hg.block b hb hne)).trans hc
theorem CodeX.at_ {w:World} {G:Option Nat} {vc:Value} {code:List GIns} (h:CodeX w G vc code):CodeAt w w.heap.size vc code:=h w _ (Lf _) fun _ _ _ _ _ h=>h
theorem CodeX.set {w:World} {G:Option Nat} {vc:Value} {code:List GIns} (h:CodeX w G vc code) {w':World} (hs:w'.heap.size=w.heap.size) {lo:Nat} (hl:∀ b,some b≠G->b≠lo->w'.heap[b]?=w.heap[b]?) (hlo:∀ (W:World) (B:Nat),w.heap.size<=B->(∀ b o v,b<w.heap.size->some b≠G->b≠lo->w.cell? ⟨b,o,none⟩=some v->W.cell? ⟨b,o,none⟩=some v)->CodeAt W B vc code):CodeX w' G vc code:=by
 intro W B hB hW;rw[hs] at hB;refine hlo W B hB fun b o v hb hne hne2 hc=>hW b o v (by omega) hne ((Lj (hl b hne hne2)).trans hc)
end
section
open Go.RowKit
def Zet (x:Int) (m n:Nat):List Value:=List.replicate m (.int .i64 x)++List.replicate (n-m) (.int .i64 0)
theorem Zmt (x:Int) {m n:Nat} (h:m<=n):(Zet x m n).length=n:=by simp[Zet];omega
theorem Zmu (x:Int) {m n c:Nat} (h:m+c<=n):splice (Zet x m n) m (List.replicate c (.int .i64 x))=Zet x (m+c) n:=by
 apply List.ext_getElem?
 intro i;simp only[splice,Zet,List.length_replicate];rw[List.take_left' (by simp)];simp only[List.getElem?_append,List.length_replicate,List.getElem?_drop,List.getElem?_replicate]
 by_cases h1:i<m
 ·simp[h1,show i<m+c by omega]
 ·by_cases h2:i-m<c
  ·simp[h1,h2,show i<m+c by omega]
  ·simp only[h1,h2,if_false,show ¬ i<m+c by omega,show ¬ m+c+(i-m-c)<m by omega]
   by_cases h3:i<n
   ·rw[if_pos (by omega),if_pos (by omega)]
   ·rw[if_neg (by omega),if_neg (by omega)]
theorem Zra (b j:Nat):(⟨b,0,none⟩:Addr).add j=⟨b,j,none⟩:=by
 unfold Addr.add
 split
 ·rename_i h;subst h;rfl
 ·simp
theorem Zqe:(Tryz.prog.info? 3).map (·.size)=some 1:=by kernel_rfl
theorem Zpe (x:Int) (xb n:Nat) (w:World) (hn1:1<=n) (hn:n<=65536) (hx:w.cell? ⟨xb,0,none⟩=some (.int .i64 x)):
  Calls Tryz.prog 127 #[.slice (some ⟨xb,0,none⟩) 1 1,.int .i64 n] w fun e w'=>e=.returned (.slice (some ⟨w.heap.size,0,none⟩) n n)/\w'.heap[w.heap.size]?=some (.cells (List.replicate n (.int .i64 x)).toArray 3 (0,0))/\Below w.heap.size w w':=by
 have hmul:=Tryz.bits_Mul 1 n (by omega) (by omega) w;have e1:1*n / 18446744073709551616=0:=by omega
 have e2:1*n % 18446744073709551616=n:=by omega
 rw[e1,e2] at hmul;have hmk:=Zgs n hn;have hmul:=hmul.mono (R':=fun e w'=>e=.returned (.tuple #[.int .u64 ((0:Nat):Int),.int .u64 (n:Int)])/\w=w') fun e w' h=>⟨h.1,h.2.symm⟩
 have hg0:(w.alloc (.cells (Array.replicate n (.int .i64 0)) 3)).heap[w.heap.size]?=some (.cells (List.replicate n (.int .i64 0)).toArray 3 (0,0)):=by
  rw[List.toArray_replicate];exact La w _
 have hx':(w.alloc (.cells (Array.replicate n (.int .i64 0)) 3)).cell? ⟨xb,0,none⟩=some (.int .i64 x):=by
  have hlt:xb<w.heap.size:=World.block_lt_of_cell? w _ hx;exact (World.cell?_alloc_lt w _ _ hlt).trans hx
 have hb0:Below w.heap.size w (w.alloc (.cells (Array.replicate n (.int .i64 0)) 3)):=(Below.refl _ _).alloc (Lf _) _;clear e1 e2;go_enter Tryz.func127,Tryz.ntmps127;go_wp2_with (first|(go_at_call 181;refine hmul.mono ?_;rintro e w' ⟨rfl,rfl⟩)|(refine wpList_copy_splice rfl (.tmp 31) (.tmp 32) 84 84 rfl 3 Tryz.underlying84 Zqe _ _ _ _ _ _ rfl rfl w.heap.size 0 _ 3 hg0 [.int .i64 x] (Nat.min_eq_left hn1).symm (fun _=>⟨rfl,_,rfl,fun j v hj=>by cases j with|zero=>(simp at hj;subst hj;exact hx')|succ j=>simp at hj⟩) (by simp;omega) (by simp[Value.oneCell']) w.heap.size w hb0 (Lf _) ?_;intro w1 hg1 hb1))
 have hg1':w1.heap[w.heap.size]?=some (.cells (Zet x 1 n).toArray 3 (0,0)):=by
  have:=hg1.out
  rw[show splice (List.replicate n (.int .i64 0)) 0 [.int .i64 x]=Zet x 1 n by
   obtain⟨m,rfl⟩:∃ m,n=m+1:=⟨n-1,by omega⟩
   simp[splice,Zet,List.replicate_succ]] at this
  exact this
 clear hg0 hx' hb0 hg1 hmul hx;go_loopw [8] (fun s8 wr=>∃ m:Nat,1<=m/\m<=n/\s8=.int .i64 m/\Hid (Below w.heap.size w wr)/\Hid (wr.heap[w.heap.size]?=some (.cells (Zet x m n).toArray 3 (0,0)))) (fun s8 _=>n-(intOf s8).toNat)
 case atStart=>exact⟨1,Lf _,hn1,rfl,hb1,hg1'⟩
 case round=>
  obtain⟨m,hm1,hmn,rfl,hb,hg⟩:=hrel;clear hg1' hb1
  by_cases hl:m<n
  ·have hl1:(m:Int)<n:=by omega
   obtain⟨c,hc⟩:∃ c,c=Nat.min m (n-m):=⟨_,rfl⟩
   have hc1:c<=m:=by rw[hc];exact Nat.min_le_left _ _
   have hc2:c<=n-m:=by rw[hc];exact Nat.min_le_right _ _
   have hc3:1<=c:=by rw[hc];exact Nat.le_min.2 ⟨hm1,by omega⟩
   have hcell:∀ j,j<m->wr.cell? ⟨w.heap.size,j,none⟩=some (.int .i64 x):=fun j hj=>by
    rw[(Za hg.out).1];simp[Zet,List.getElem?_append,hj]
   have Hcell:=hid hcell;have hs1:IntKind.i64.wrap ((m:Int)+c)=(m:Int)+c:=by rw[IntKind.wrap_i64];omega
   have hc':Nat.min m (n-m)=c:=hc.symm;clear hcell hc;have hm0:¬ n-m=n:=by omega
   have hnm:¬ n=m:=by omega
   go_upto_region 9 with (fail)
   go_region_law (refine step_copy_splice rfl (.tmp 41) (.tmp 44) 84 84 rfl 3 Tryz.underlying84 Zqe (some ⟨w.heap.size,m,none⟩) (some ⟨w.heap.size,0,none⟩) (n-m) (n-m) m n ?hd ?hs w.heap.size m (Zet x m n) 3 hg.out (List.replicate c (.int .i64 x)) (by rw[List.length_replicate];exact hc'.symm) ?hp (by rw[Zmt x hmn,List.length_replicate];omega) (by intro v hv;rw[(List.mem_replicate.1 hv).2];rfl) w.heap.size w hb.out.drew (Lf _) ?_;(case hd=>(simp[Act.eval,Act.put,Array.getD,Addr.add,hm0,hnm];done));(case hs=>(simp[Act.eval,Act.put,Array.getD];done));(case hp=>exact fun _=>⟨rfl,_,rfl,fun j v hj=>by rw[List.getElem?_replicate] at hj;split at hj<;>cases hj;rw[Zra];exact Hcell.out j (by omega)⟩);intro w4 hg4 hb4);rw[Zmu x (by omega)] at hg4;have hlen:((List.replicate c (Value.int .i64 x)).length:Int)=c:=by simp
   simp[Act.put,hs1];go_wp2;go_roundw
   case rel=>exact⟨m+c,by omega,by omega,by go_num,hb4,hg4⟩
   case measure=>simp[intOf];omega
  ·obtain rfl:m=n:=by omega
   have HR:=hid (show wr.heap[w.heap.size]?=some (.cells (List.replicate m (.int .i64 x)).toArray 3 (0,0)) by
    have:=hg.out
    simpa [Zet] using this)
   clear hg;go_wp2;go_ret;exact⟨rfl,HR.out,hb.out⟩
end

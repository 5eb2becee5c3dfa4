/- slices. No condition. -/
import Derived.Shelf.SlSortCmp.WholeK
import Derived.Ground.SlsfProg
import Derived.Test.YtphnnmecmiodhaaGreatESp
import Derived.Shelf.SlSortCmp.NoneTotal
set_option maxHeartbeats 1000000
set_option linter.all false
namespace Go.Proofs.YtphnnmecmiodhaaGreat
section
open Go.RowKit Go.Sort
variable {α:Type} [Inhabited α] {enc:α->List Value} {k:Nat}
theorem Zxe (hk:∀ x,(enc x).length=k) (d:Array α):(flatK enc k d).toList=d.toList.flatMap enc:=by
 apply List.ext_getElem?
 intro t;have hlen:(d.toList.flatMap enc).length=d.size*k:=by
  have:∀ l:List α,(l.flatMap enc).length=l.length*k:=by
   intro l
   induction l with
   |nil=>simp
   |cons x l ih=>rw[List.flatMap_cons,List.length_append,hk,ih,List.length_cons,Nat.add_mul];omega
  rw[this,Array.length_toList]
 by_cases ht:t<d.size*k
 ·have hk0:0<k:=by
   rcases Nat.eq_zero_or_pos k with h|h
   ·rw[h] at ht;omega
   ·exact h
  have hq:t / k<d.size:=Nat.div_lt_of_lt_mul (by rw[Nat.mul_comm];exact ht);have hr:=Nat.mod_lt t hk0;have e:t=t / k*k+t % k:=by rw[Nat.mul_comm];exact (Nat.div_add_mod t k).symm
  have h1:=Qz (f:=enc) (sz:=k) (l:=d.toList) (k:=t / k) (j:=t % k) (x:=d[t / k]) (fun x _=>hk x) (by rw[Array.getElem?_toList];exact Array.getElem?_eq_getElem hq) hr;rw[<-e] at h1;rw[h1,Array.getElem?_toList,Array.getElem?_eq_getElem (by simpa using ht)];have h2:=get_flatK enc k d t ht;rw[getElem!_pos _ t (by simpa using ht)] at h2;rw[h2,getElem!_pos d _ hq,getElem!_pos _ _ (by rw[hk];exact hr),List.getElem?_eq_getElem (by rw[hk];exact hr)]
 ·rw[List.getElem?_eq_none (by rw[Array.length_toList,size_flatK];omega),List.getElem?_eq_none (by rw[hlen];omega)]
theorem Zyk {w:World} {base g c:Nat} {e:TypeId} (hk:∀ x,(enc x).length=k) {d:Array α} (h:w.ownsRow base e k (.slice (some ⟨g,0,none⟩) d.size c) d.size (d.toList.flatMap enc)):HoldsK enc k w g 0 d:=by
 obtain⟨hl,h2⟩:=h
 rcases h2 with ⟨h0,_⟩|⟨g',cap,cur,hv,hb,hh,h1,h2,h3,h4⟩
 ·cases h0
 ·cases hv
  intro j hj;rw[size_flatK] at hj;have h5:(cur.toList.take (d.size*k))[j]?=(flatK enc k d).toList[j]?:=by rw[h4,Zxe hk]
  rw[List.getElem?_take_of_lt hj,Array.getElem?_toList,Array.getElem?_toList] at h5;refine⟨?_,by simp[World.frozen?,hh]⟩;rw[Nat.zero_add,(Za hh).1,h5,Array.getElem?_eq_getElem (by simpa using hj),getElem!_pos _ j (by simpa using hj)];rfl
theorem Zxy {w:World} {g n:Nat} {os:Array Obj} {cur:Array Value} {e:TypeId} {fr:Nat×Nat} (d:Array α) (hb:w.heap[g]?=some (.cells cur e fr)):(sortWorldK enc k w g 0 n d os).heap[g]?=some (.cells (putCells id 0 (flatK enc k d) cur) e fr):=by
 have hg:g<w.heap.size:=(Array.getElem?_eq_some_iff.1 hb).1;unfold sortWorldK putRowK;rw[heap_grow_old _ _ (by simpa using hg)];simp[putRow,mapBlock,Sort.ahead,Array.getElem?_modify,hb,onCells]
theorem Zxu {w:World} {g n:Nat} {os:Array Obj} (d:Array α):w.grownBy (sortWorldK enc k w g 0 n d os) (some g):=by
 unfold sortWorldK putRowK;refine⟨rfl,rfl,rfl,by simp,fun j hj hne=>?_⟩;rw[heap_grow_old _ _ (by simpa using hj)];have:g≠j:=fun e=>hne (by rw[e])
 simp[putRow,mapBlock,Sort.ahead,Array.getElem?_modify,this]
theorem Zxz {w:World} {base g c n:Nat} {e:TypeId} {os:Array Obj} (hk:∀ x,(enc x).length=k) {d d':Array α} (hs:d'.size=d.size) (h:w.ownsRow base e k (.slice (some ⟨g,0,none⟩) d.size c) d.size (d.toList.flatMap enc)):
  (sortWorldK enc k w g 0 n d' os).ownsRow base e k (.slice (some ⟨g,0,none⟩) d.size c) d.size (d'.toList.flatMap enc):=by
 obtain⟨hl,h2⟩:=h
 rcases h2 with ⟨h0,_⟩|⟨g',cap,cur,hv,hb,hh,h1,h2,h3,h4⟩
 ·cases h0
 ·cases hv
  have hf:=Zxe (enc:=enc) hk d';have hz:(flatK enc k d').size=d.size*k:=by rw[size_flatK,hs]
  refine⟨by rw[<-hf,Array.length_toList,hz],.inr ⟨g,c,_,rfl,hb,Zxy d' hh,h1,h2,by simp[putCells,h3],?_⟩⟩;rw[<-hf]
  apply List.ext_getElem?
  intro j;have hcz:d.size*k<=cur.size:=by rw[h3];exact Nat.mul_le_mul_right k h1
  by_cases hj:j<d.size*k
  ·rw[List.getElem?_take_of_lt hj,Array.getElem?_toList,Array.getElem?_toList,Array.getElem?_eq_getElem (show j<(flatK enc k d').size by omega)];simp[putCells,show j<cur.size by omega,show j<(flatK enc k d').size by omega];rw[if_pos (by rw[hs];exact hj),getElem!_pos _ j (by omega)]
  ·rw[List.getElem?_take_eq_none (by omega),List.getElem?_eq_none (by rw[Array.length_toList];omega)]
end
section
open Go.Shelf
def Tryz.sortFact_ren:Go.Shelf.Ren:=⟨fun|6=>85|15=>127|14=>126|28=>192|29=>193|20=>184|21=>185|22=>186|23=>187|24=>188|25=>189|26=>190|27=>191|46=>237|47=>238|48=>239|49=>240|50=>241|57=>273|n=>n,fun|22=>84|24=>93|25=>97|3=>3|39=>210|0=>0|53=>264|55=>266|4=>4|46=>258|45=>257|50=>69|5=>5|9=>9|66=>295|70=>299|76=>323|77=>324|n=>n,fun|n=>n⟩
theorem Tryz.sortFact:Go.Proofs.SlLaysF0.n6 Tryz.prog Tryz.sortFact_ren:={
 mixed:=by kernel_rfl
 f6:=⟨Tryz.f85.name,by decide,Tryz.func85.trans (congrArg some (by kernel_rfl))⟩
 f14:=⟨Tryz.f126.name,by decide,Tryz.func126.trans (congrArg some (by kernel_rfl))⟩
 f15:=Tryz.func127.trans (congrArg some (by kernel_rfl))
 f20:=⟨Tryz.f184.name,by decide,Tryz.func184.trans (congrArg some (by kernel_rfl))⟩
 f21:=⟨Tryz.f185.name,by decide,Tryz.func185.trans (congrArg some (by kernel_rfl))⟩
 f22:=⟨Tryz.f186.name,by decide,Tryz.func186.trans (congrArg some (by kernel_rfl))⟩
 f23:=⟨Tryz.f187.name,by decide,Tryz.func187.trans (congrArg some (by kernel_rfl))⟩
 f24:=⟨Tryz.f188.name,by decide,Tryz.func188.trans (congrArg some (by kernel_rfl))⟩
 f25:=⟨Tryz.f189.name,by decide,Tryz.func189.trans (congrArg some (by kernel_rfl))⟩
 f26:=⟨Tryz.f190.name,by decide,Tryz.func190.trans (congrArg some (by kernel_rfl))⟩
 f27:=⟨Tryz.f191.name,by decide,Tryz.func191.trans (congrArg some (by kernel_rfl))⟩
 f28:=Tryz.func192.trans (congrArg some (by kernel_rfl))
 f29:=Tryz.func193.trans (congrArg some (by kernel_rfl))
 f46:=⟨Tryz.f237.name,by decide,Tryz.func237.trans (congrArg some (by kernel_rfl))⟩
 f47:=Tryz.func238.trans (congrArg some (by kernel_rfl))
 f48:=Tryz.func239.trans (congrArg some (by kernel_rfl))
 f49:=⟨Tryz.f240.name,by decide,Tryz.func240.trans (congrArg some (by kernel_rfl))⟩
 f50:=⟨Tryz.f241.name,by decide,Tryz.func241.trans (congrArg some (by kernel_rfl))⟩
 f57:=⟨Tryz.f273.name,by decide,Tryz.func273.trans (congrArg some (by kernel_rfl))⟩
 t0:=Tryz.underlying0
 a0:=Tryz.isAgg0
 z0:=Tryz.sizeOf0
 v0:=Tryz.zeroValue0
 t3:=Tryz.underlying3
 a3:=Tryz.isAgg3
 z3:=Tryz.sizeOf3
 v3:=Tryz.zeroValue3
 t4:=Tryz.underlying4
 a4:=Tryz.isAgg4
 z4:=Tryz.sizeOf4
 v4:=Tryz.zeroValue4
 t5:=Tryz.underlying5
 a5:=Tryz.isAgg5
 z5:=Tryz.sizeOf5
 v5:=Tryz.zeroValue5
 t9:=Tryz.underlying9
 a9:=Tryz.isAgg9
 z9:=Tryz.sizeOf9
 v9:=Tryz.zeroValue9
 t22:=Tryz.underlying84
 a22:=Tryz.isAgg84
 z22:=Tryz.sizeOf84
 v22:=Tryz.zeroValue84
 t25:=Tryz.underlying97
 a25:=Tryz.isAgg97
 z25:=Tryz.sizeOf97
 v25:=Tryz.zeroValue97
 t39:=Tryz.underlying210
 a39:=Tryz.isAgg210
 z39:=Tryz.sizeOf210
 v39:=Tryz.zeroValue210
 t45:=Tryz.underlying257
 a45:=Tryz.isAgg257
 z45:=Tryz.sizeOf257
 v45:=Tryz.zeroValue257
 t46:=Tryz.underlying258
 a46:=Tryz.isAgg258
 z46:=Tryz.sizeOf258
 v46:=Tryz.zeroValue258
 t50:=Tryz.underlying69
 a50:=Tryz.isAgg69
 z50:=Tryz.sizeOf69
 v50:=Tryz.zeroValue69
 t53:=Tryz.underlying264
 a53:=Tryz.isAgg264
 z53:=Tryz.sizeOf264
 v53:=Tryz.zeroValue264
 t55:=Tryz.underlying266
 a55:=Tryz.isAgg266
 z55:=Tryz.sizeOf266
 v55:=Tryz.zeroValue266
 t66:=Tryz.underlying295
 a66:=Tryz.isAgg295
 z66:=Tryz.sizeOf295
 v66:=Tryz.zeroValue295
 t70:=Tryz.underlying299
 a70:=Tryz.isAgg299
 z70:=Tryz.sizeOf299
 v70:=Tryz.zeroValue299
 t76:=Tryz.underlying323
 a76:=Tryz.isAgg323
 z76:=Tryz.sizeOf323
 v76:=Tryz.zeroValue323
 t77:=Tryz.underlying324
 a77:=Tryz.isAgg324
 z77:=Tryz.sizeOf324
 v77:=Tryz.zeroValue324 }
end
section
open Go.RowKit Go.Shelf Go.Sort
def Zwq (q:GPt) (x:Int×Nat):List Value:=[.int .i64 q.1,.int .i64 q.2.1,.int .i64 q.2.2,.int .i64 x.1,.int .i64 x.2]
def Zww (q:GPt) (x:Fin 65536×Nat):List Value:=Zwq q ((x.1.val:Int),x.2)
theorem Zxv (q:GPt) (x y:Fin 65536×Nat) (W:World):Calls Tryz.prog 86 #[.agg (Zww q x).toArray,.agg (Zww q y).toArray] W fun e w'=>e=.returned (.int .i64 ((x.1.val:Int)-(y.1.val:Int)))/\∃ n os',w'=grow (W.drewN n) os':=by
 obtain⟨⟨a,ha⟩,o⟩:=x;obtain⟨⟨b,hb⟩,o'⟩:=y;have hw:IntKind.i64.wrap ((a:Int)-(b:Int))=(a:Int)-(b:Int):=by rw[IntKind.wrap_i64];omega
 show Calls Tryz.prog 86 #[.agg #[.int .i64 q.1,.int .i64 q.2.1,.int .i64 q.2.2,.int .i64 a,.int .i64 o],.agg #[.int .i64 q.1,.int .i64 q.2.1,.int .i64 q.2.2,.int .i64 b,.int .i64 o']] W _;go_enter Tryz.func86,Tryz.ntmps86;go_wp2;go_ret;exact⟨rfl,0,_,by rw[alloc_eq_grow,alloc_eq_grow,grow_grow];rfl⟩
theorem ltFn (x y:Fin 65536×Nat):ltOf (fun x y:Fin 65536×Nat=>(x.1.val:Int)-(y.1.val:Int)) x y=decide (x.1.val<y.1.val):=by
 show decide ((x.1.val:Int)-(y.1.val:Int)<0)=_;rw[decide_eq_decide];omega
theorem swoFn:SWO (ltOf fun x y:Fin 65536×Nat=>(x.1.val:Int)-(y.1.val:Int)) where
 irrefl x:=by rw[ltFn];simp
 trans x y z h1 h2:=by rw[ltFn] at*;simp at*;omega
 ntrans x y z h1 h2:=by rw[ltFn] at*;simp at*;omega
def Zxi (x:Int×Nat):Fin 65536×Nat:=(⟨x.1.toNat % 65536,Nat.mod_lt _ (by decide)⟩,x.2)
theorem Zyy (q:GPt) {x:Int×Nat} (h:0<=x.1/\x.1<65536):Zww q (Zxi x)=Zwq q x:=by
 unfold Zww Zxi;have:((x.1.toNat % 65536:Nat):Int)=x.1:=by omega
 simp only[this]
theorem Zxm (q:GPt):∀ {L:List (Int×Nat)},(∀ x∈L,0<=x.1/\x.1<65536)->(L.map Zxi).flatMap (Zww q)=L.flatMap (Zwq q)
 |[],_=>rfl
 |x::L,h=>by rw[List.map_cons,List.flatMap_cons,List.flatMap_cons,Zyy q (h x (by simp)),Zxm q fun y hy=>h y (by simp[hy])]
theorem Zxh (q:GPt) {base:Nat} {v:Value} {L:List (Int×Nat)} (hL:∀ x∈L,0<=x.1/\x.1<65536) (hn:L.length<4611686018427387904) (W:World) (h:W.ownsRow base 93 5 v L.length (L.flatMap (Zwq q))):
  Calls Tryz.prog 85 #[v,.func (.func 86) #[] #[]] W fun e w'=>e=.returned (.tuple #[])/\∃ L':List (Int×Nat),L'.Perm L/\L'.Pairwise (fun x y=>x.1<=y.1)/\w'.ownsRow base 93 5 v L'.length (L'.flatMap (Zwq q))/\W.grownBy w' v.ownBlock:=by
 have h':=h
 rcases h.2 with ⟨rfl,h0⟩|⟨g,cap,cur,rfl,hbase,hh,h1,h2,h3,h4⟩
 ·have hl:L=[]:=List.eq_nil_of_length_eq_zero h0;subst hl;refine (AnyF.slices_SortFunc_none Tryz.sortFact none 0 (.func (.func 86) #[] #[]) W).mono ?_;rintro e w' ⟨rfl,rfl⟩;exact⟨rfl,[],List.Perm.refl _,by simp,h',Lb _ _⟩
 ·have eg:∀ args w,(callFunc 86 args).run Tryz.prog w=.ok (.enter 86 args) w:=enters_of Tryz.func86 (by kernel_rfl) rfl;have hd:(L.map Zxi).toArray.size=L.length:=by simp
  have hk:∀ x,(Zww q x).length=5:=fun _=>rfl
  have ho:W.ownsRow base 93 5 (.slice (some ⟨g,0,none⟩) (L.map Zxi).toArray.size cap) (L.map Zxi).toArray.size ((L.map Zxi).toArray.toList.flatMap (Zww q)):=by
   rw[hd,List.toList_toArray,Zxm q hL];exact h'
  have hc:=AnyQ.slices_SortFunc Tryz.sortFact 5 Tryz.isAgg93 Tryz.sizeOf93 (Zww q) hk (fun x v hv=>by simp[Zww,Zwq] at hv;rcases hv with rfl|rfl|rfl|rfl|rfl<;>rfl) (fun x y=>(x.1.val:Int)-(y.1.val:Int)) swoFn 86 #[] g 0 cap (L.map Zxi).toArray W eg (fun _ _ _ _ x y=>Zxv q x y _) (Zyk hk ho) (Ze hh) (by rw[hd];exact hn);rw[hd] at hc;refine hc.mono ?_;rintro e w' ⟨rfl,d',n,os,hp,hs,rfl⟩;have hsz:d'.size=L.length:=hp.1.trans hd;have hpl:d'.toList.Perm (L.map Zxi):=by
   have:=hp.2.2;rw[<-hsz,Array.extract_size] at this;rw[hsz,<-hd,Array.extract_size] at this;exact this
  let back:Fin 65536×Nat->Int×Nat:=fun x=>((x.1.val:Int),x.2)
  have hb:(L.map Zxi).map back=L:=by
   rw[List.map_map]
   conv=>rhs;rw[<-List.map_id L]
   refine List.map_congr_left fun x hx=>?_
   have:=hL x hx;show (((x.1.toNat % 65536:Nat):Int),x.2)=x;rw[show ((x.1.toNat % 65536:Nat):Int)=x.1 by omega]
  refine⟨rfl,d'.toList.map back,by rw[<-hb];exact hpl.map back,?_,?_,Zxu d'⟩
  ·rw[List.pairwise_map,List.pairwise_iff_getElem];intro i j hi hj hij;rw[Array.length_toList] at hi hj;have:=hs i j (Ln _) hij (by omega);rw[ltFn,getElem!_pos d' i hi,getElem!_pos d' j hj] at this;simp only[decide_eq_false_iff_not,Nat.not_lt] at this;simp only[Array.getElem_toList];show ((d'[i].1.val:Nat):Int)<=((d'[j].1.val:Nat):Int);omega
  ·have:=Zxz (n:=n) (os:=os) hk (d':=d') (by omega) ho;rw[hd] at this;have e:(d'.toList.map back).flatMap (Zwq q)=d'.toList.flatMap (Zww q):=by
    rw[List.flatMap_map];rfl
   rw[List.length_map,show d'.toList.length=L.length from hsz,e];exact this
end

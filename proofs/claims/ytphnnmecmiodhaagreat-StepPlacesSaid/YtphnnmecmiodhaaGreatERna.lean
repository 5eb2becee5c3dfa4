/- Ranges over maps inside a fence. No condition. -/
import Derived.Test.YtphnnmecmiodhaaGreatEFp
import Derived.Sort.MapsRangeIn
import Derived.Lib.Small
import Derived.Sort.Grow
set_option maxHeartbeats 4000000
set_option maxRecDepth 100000
set_option linter.all false
namespace Go.Proofs.YtphnnmecmiodhaaGreat
open Lib(hid)
section
open Go.RowKit
section
variable {κ β:Type} {ek:κ->Value} {ev:β->Value} {P:Program} {w:World} {F:Fence} {n:Nat} {ops:Array Oper} {rest:List Oper} {o:Oper} {a:Act} {Q:Exit->Act->World->Prop}
theorem Zzz (hg:o.guard=none) (m:Operand) (t:TypeId) (hop:o.op=Op.range t m) (k e:TypeId) (ht:P.underlying t=some (.map k e)) (b:Nat) (l:List (κ×β)) (hm:a.eval m=.map (some b)) (hb:w.heap[b]?=some (Z7 ek ev l))
  (hK:∀ w',RngAt ek ev w' w.heap.size b l []->w.grownBy w' none->w'.heap.size=w.heap.size+1->wpListIn F n P ops Q rest (a.put o.dst (.pointer (some ⟨w.heap.size,0,none⟩))) w'):wpListIn F n P ops Q (o::rest) a w:=by
 refine wpListIn_plain hg fun K' hK'=>?_
 obtain⟨w',hrun,r1,r2,r3⟩:=Zyp (P:=P) hb ht;unfold Oper.wpIn;refine⟨?_,?_⟩
 ·simp[Oper.about,hop]
 ·rw[Oper.semAt_plain F _ _ (by rw[hop];intro c hc';cases hc')];simp[execOp,hop,hm,hrun,Result.andThen];exact hK' _ _ (hK w' r1 r2 r3)
theorem Yad (hg:o.guard=none) (it:Operand) (hop:o.op=Op.next it false) (r b:Nat) (l:List (κ×β)) (S:List Nat) (hit:a.eval it=.pointer (some ⟨r,0,none⟩)) (h:RngAt ek ev w r b l S)
  (hDone:S.Perm (List.range l.length)->wpListIn F n P ops Q rest (a.put o.dst (.tuple #[.bool false])) w)
  (hMore:∀ (i:Nat) (k:κ) (v:β) (w':World),l[i]?=some (k,v)->i∉S->RngAt ek ev w' r b l (S++[i])->w.grownBy w' (some r)->w'.heap.size=w.heap.size->(Instr.entry (.pointer (some ⟨r,0,none⟩))).run P w'=.ok (.tuple #[ek k,ev v]) w'->wpListIn F n P ops Q rest (a.put o.dst (.tuple #[.bool true,ek k,ev v])) w'):
  wpListIn F n P ops Q (o::rest) a w:=by
 refine wpListIn_plain hg fun K' hK'=>?_
 unfold Oper.wpIn;refine⟨by simp[Oper.about,hop],?_⟩;rw[Oper.semAt_plain F _ _ (by rw[hop];intro c hc';cases hc')]
 rcases Zyx (P:=P) h o.type with ⟨h0,hrun⟩|⟨i,k,v,w',h1,h2,hrun,h3,h4,h5,h6⟩
 ·simp[execOp,hop,hit,hrun,Result.andThen];exact hK' _ _ (hDone h0)
 ·simp[execOp,hop,hit,hrun,Result.andThen];exact hK' _ _ (hMore i k v w' h1 h2 h3 h4 h5 h6)
theorem Yah (hgd:o.guard=none) (s x:Operand) (t:TypeId)
  (ho:o.op=.call { callee:=.builtin .append,args:= #[s,x],argTypes:= #[t,t] })
  (base:Nat) (e:TypeId) (z:Value) (size bytes:Nat) (ht:P.underlying t=some (.slice e)) (hinfo:(P.info? e).map (fun i=>(i.zero,i.size,i.bytes))=some (some z,size,bytes)) (hzs:z.cells.size=size) (hsz:0<size)
  (v:Value) (xs:List Value) (m:Nat) (hs:a.eval s=v) (hown:w.ownsRow base e size v m xs)
  (b:Nat) (news:List Value) (hl:news.length=size) (hu:∀ u∈news,u.oneCell'=true) (hx:a.eval x=.slice (some ⟨b,0,none⟩) 1 1) (cs:Array Value) (tb:TypeId) (hb:w.heap[b]?=some (.cells cs tb (0,0))) (hcs:cs.toList=news)
  (h63:m+1<=maxLen) (hbytes:(m+1)*bytes<=140737488355328) (hbase:base<=w.heap.size)
  (h:∀ g c w',w'.ownsRow base e size (.slice (some ⟨g,0,none⟩) (m+1) c) (m+1) (xs++news)->w.grownBy w' v.ownBlock->(v.ownBlock=some g\/g=w.heap.size)->wpListIn F n P ops Q rest (a.put o.dst (.slice (some ⟨g,0,none⟩) (m+1) c)) w'):
  wpListIn F n P ops Q (o::rest) a w:=by
 refine wpListIn_plain hgd fun K hK'=>?_
 obtain⟨g,c,w',hrun,h1,h2,h3⟩:=Ztf (P:=P) t o.type base e z size bytes ht hinfo hzs hsz v xs m hown b news hl hu cs tb hb hcs h63 hbytes hbase;unfold Oper.wpIn;refine⟨?_,?_⟩
 ·simp[Oper.about,ho,resolve,Target.leads,Sem.run_pure]
 ·rw[Oper.semAt_plain F _ _ (by rw[ho];intro c hc';cases hc')];simp[execOp,ho,resolve,invoke,builtin,hs,hx,hrun,Result.andThen];exact hK' _ _ (h g c w' h1 h2 h3)
end
def rngN (w:World) (r:Nat):Nat:=match w.heap[r]? with
 |some (.mapIter _ _ seen _)=>seen.size
 |_=>0
theorem Yav {κ β:Type} {ek:κ->Value} {ev:β->Value} {w:World} {r b:Nat} {m:List (κ×β)} {S:List Nat} (h:RngAt ek ev w r b m S):rngN w r=S.length:=by
 obtain⟨c,_,e⟩:=h.it;unfold rngN;rw[e];simp
theorem Ycz {κ β:Type} {ek:κ->Value} {ev:β->Value} {w:World} {r b:Nat} {m:List (κ×β)} {S:List Nat} (h:RngAt ek ev w r b m S):S.length<=m.length:=by
 have hp:S.Perm ((List.range m.length).filter fun i=>S.contains i):=(List.perm_ext_iff_of_nodup h.nd (List.nodup_range.filter _)).2 fun i=>by
  rw[List.mem_filter,List.mem_range,List.contains_iff_mem];exact⟨fun hi=>⟨h.lt i hi,hi⟩,fun hi=>hi.2⟩
 have h1:=hp.length_eq;have h2:=List.length_filter_le (fun i=>S.contains i) (List.range m.length);rw[List.length_range] at h2;omega
def Zzo {κ β:Type} (m:List (κ×β)) (S:List Nat):List κ:=S.filterMap fun i=>(m[i]?).map (·.1)
theorem Yar {κ β:Type} {m:List (κ×β)} {S:List Nat} {i:Nat} {k:κ} {v:β} (h:m[i]?=some (k,v)):Zzo m (S++[i])=Zzo m S++[k]:=by
 unfold Zzo;rw[List.filterMap_append];simp[h]
theorem Ybb {κ β:Type} (m:List (κ×β)) (S:List Nat):(Zzo m S).length<=S.length:=List.length_filterMap_le _ _
theorem fmc {α β:Type} {f g:α->Option β}:∀ {l:List α},(∀ x∈l,f x=g x)->l.filterMap f=l.filterMap g
 |[],_=>rfl
 |x::l,h=>by rw[List.filterMap_cons,List.filterMap_cons,h x (by simp),fmc fun y hy=>h y (by simp[hy])]
theorem Yba {κ β:Type} {m:List (κ×β)} {S:List Nat} (h:S.Perm (List.range m.length)):(Zzo m S).Perm (m.map (·.1)):=by
 refine (h.filterMap _).trans (List.Perm.of_eq ?_)
 apply List.ext_getElem?
 intro j;have:∀ (l:List (κ×β)) (n:Nat),((List.range' n l.length).filterMap fun i=>((l[i-n]?).map (·.1)))=l.map (·.1):=by
  intro l
  induction l with
  |nil=>intro n;rfl
  |cons x l ih=>
   intro n;rw[List.length_cons,List.range'_succ,List.filterMap_cons,Nat.sub_self,List.getElem?_cons_zero,Option.map_some,List.map_cons];have e:(List.filterMap (fun i=>(((x::l)[i-n]?).map (·.1))) (List.range' (n+1) l.length))=l.map (·.1):=by
    rw[<-ih (n+1)];refine fmc fun i hi=>?_
    rw[List.mem_range'_1] at hi;rw[show i-n=(i-(n+1))+1 by omega,List.getElem?_cons_succ]
   rw[e]
 have h0:=this m 0;rw[<-List.range_eq_range'] at h0;rw[<-h0];rfl
theorem RngAt.walks {κ β:Type} {ek:κ->Value} {ev:β->Value} {w w':World} {r b:Nat} {m:List (κ×β)} {S:List Nat} (h:RngAt ek ev w r b m S) (hk:KeepsWalks w w'):RngAt ek ev w' r b m S:=by
 obtain⟨c,_,e⟩:=h.it;exact h.keep ((hk.same _ _ h.map rfl).trans h.map.symm) ((hk.same _ _ e rfl).trans e.symm)
structure BoxI (wS:World) (ob:Nat) (ts te:TypeId) (sz:Nat) (xs:List Value) (n:Nat) (W:World):Prop where
 blk:∃ v,W.heap[ob]?=some (.cells #[v] ts (0,0))/\W.ownsRow wS.heap.size te sz v n xs
 chg:Chg (fun n=>n=ob) wS W
theorem BoxI.keep {wS W W':World} {ob sz n:Nat} {ts te:TypeId} {xs:List Value} {Q:Nat->Prop} (hs:BoxI wS ob ts te sz xs n W) (hc:Chg Q W W') (h1:¬ Q ob) (h2:∀ n,n<wS.heap.size->¬ Q n) (h3:∀ n o,W.heap[n]?=some o->o.isCells=true->¬ Q n):BoxI wS ob ts te sz xs n W':=by
 obtain⟨v,h4,h5⟩:=hs.blk;refine⟨⟨v,hc.at_ h4 h1,hc.owns h5 (fun g e=>?_)⟩,hs.chg.trans hc (fun n hn e=>absurd e (h2 n hn))⟩;obtain⟨hl,h6⟩:=h5
 rcases h6 with ⟨h6,_⟩|⟨g',cap,cur,rfl,hb,hh,r⟩
 ·rw[h6] at e;cases e
 ·simp only[Value.ownBlock,Option.map_some,Option.some.injEq] at e;subst e;exact h3 _ _ hh rfl
theorem Ybx {α:Type} {wS:World} {ob sz:Nat} {ts te:TypeId} {f:α->List Value} (hob:ob<wS.heap.size):OwnFrom wS.heap.size (fun (pre:List α) W=>BoxI wS ob ts te sz (pre.flatMap f) pre.length W):=fun s W W' row hs hg hr=>
 hs.keep (Q:=fun n=>row=some n) (Chg.grown hg (fun r e=>e)) (fun e=>by have:=(hr ob e).1;omega) (fun n hn e=>by have:=(hr n e).1;omega) (fun n o ho hc e=>by
  obtain⟨_,o',ho',hc'⟩:=hr n e
  rw[ho] at ho'
  cases ho'
  rw[hc] at hc'
  cases hc')
theorem Zzr {w:World} {base n sz:Nat} {e:TypeId} {v:Value} {xs:List Value} (h:w.ownsRow base e sz v n xs) {g:Nat} (hg:v.ownBlock=some g):∃ cs t f,w.heap[g]?=some (.cells cs t f):=by
 obtain⟨hl,h6⟩:=h
 rcases h6 with ⟨h6,_⟩|⟨g',cap,cur,rfl,hb,hh,r⟩
 ·rw[h6] at hg;cases hg
 ·simp only[Value.ownBlock,Option.map_some,Option.some.injEq] at hg;subst hg;exact⟨_,_,_,hh⟩
theorem Zzu {w:World} {base base' sz:Nat} {e:TypeId} {v:Value} {n:Nat} {xs:List Value} (h:w.ownsRow base e sz v n xs) (hb:base'<=base):w.ownsRow base' e sz v n xs:=
 ⟨h.1,h.2.imp id fun ⟨g,cap,cur,e1,h1,r⟩=>⟨g,cap,cur,e1,Nat.le_trans hb h1,r⟩⟩
end
section
open Go.RowKit
abbrev FK:=GPt×(Int×Nat)
abbrev CK:=GPt×Nat
def clF (x:FK):List Value:=[.int .i64 x.1.1,.int .i64 x.1.2.1,.int .i64 x.1.2.2,.int .i64 x.2.1,.int .i64 x.2.2]
def clC (x:CK):List Value:=[.int .i64 x.1.1,.int .i64 x.1.2.1,.int .i64 x.1.2.2,.int .i64 x.2]
def Zze (x:FK):Value:=.agg #[.int .i64 x.1.1,.int .i64 x.1.2.1,.int .i64 x.1.2.2,.int .i64 x.2.1,.int .i64 x.2.2]
def Zzj (x:CK):Value:=.agg #[.int .i64 x.1.1,.int .i64 x.1.2.1,.int .i64 x.1.2.2,.int .i64 x.2]
theorem Yby (a b c:Int) (em:Bool) (w:World):(Instr.checkKey em 9999 41 (.agg #[.int .i64 a,.int .i64 b,.int .i64 c])).run Tryz.prog w=.ok () w:=by
 show (Instr.checkKey em (9997+1+1) _ _).run _ _=_;unfold Instr.checkKey;simp only[Sem.run_bind,run_underlying Tryz.underlying41,Result.andThen];rw[<-Array.forIn_toList];simp only[List.forIn_cons,List.forIn_nil];have c1:=fun n:Int=>MapKept.run_checkKey (P:=Tryz.prog) (w:=w) Tryz.underlying3 (show MapKept.IsKey _ (.int .i64 n) by simp[MapKept.IsKey]) em 9997
 go_simp
theorem keyFK:Ybv Tryz.prog 93 Zze where
 wide:=by kernel_rfl
 check:=fun a em w=>by
  show (Instr.checkKey em (9998+1+1) _ _).run _ _=_;unfold Instr.checkKey;simp only[Zze,Sem.run_bind,run_underlying Tryz.underlying93,Result.andThen];rw[<-Array.forIn_toList];simp only[List.forIn_cons,List.forIn_nil];have c1:=fun n:Int=>MapKept.run_checkKey (P:=Tryz.prog) (w:=w) Tryz.underlying3 (show MapKept.IsKey _ (.int .i64 n) by simp[MapKept.IsKey]) em 9998
  have c2:=Yby a.1.1 a.1.2.1 a.1.2.2 em w;go_simp
 eqn:=fun a b w=>by
  show (Op.equalIn 10000 93 _ _).run _ _=_;unfold Zze;go_simp;obtain⟨⟨a1,a2,a3⟩,a4,a5⟩:=a;obtain⟨⟨b1,b2,b3⟩,b4,b5⟩:=b;simp only[Int.ofNat_inj]
  by_cases h1:a1=b1
  ·by_cases h2:a2=b2
   ·by_cases h3:a3=b3
    ·by_cases h4:a4=b4
     ·by_cases h5:a5=b5<;>simp[h1,h2,h3,h4,h5]
     ·simp[h1,h2,h3,h4]
    ·simp[h1,h2,h3]
   ·simp[h1,h2]
  ·simp[h1]
 bits:=fun a=>by
  simp[Zze,Instr.sameBits]
theorem keyCK:Ybv Tryz.prog 81 Zzj where
 wide:=by kernel_rfl
 check:=fun a em w=>by
  show (Instr.checkKey em (9998+1+1) _ _).run _ _=_;unfold Instr.checkKey;simp only[Zzj,Sem.run_bind,run_underlying Tryz.underlying81,Result.andThen];rw[<-Array.forIn_toList];simp only[List.forIn_cons,List.forIn_nil];have c1:=fun n:Int=>MapKept.run_checkKey (P:=Tryz.prog) (w:=w) Tryz.underlying3 (show MapKept.IsKey _ (.int .i64 n) by simp[MapKept.IsKey]) em 9998
  have c2:=Yby a.1.1 a.1.2.1 a.1.2.2 em w;go_simp
 eqn:=fun a b w=>by
  show (Op.equalIn 10000 81 _ _).run _ _=_;unfold Zzj;go_simp;obtain⟨⟨a1,a2,a3⟩,a4⟩:=a;obtain⟨⟨b1,b2,b3⟩,b4⟩:=b;simp only[Int.ofNat_inj]
  by_cases h1:a1=b1
  ·by_cases h2:a2=b2
   ·by_cases h3:a3=b3
    ·by_cases h4:a4=b4<;>simp[h1,h2,h3,h4]
    ·simp[h1,h2,h3]
   ·simp[h1,h2]
  ·simp[h1]
 bits:=fun a=>by
  simp[Zzj,Instr.sameBits]
end
def Zzb:List Int->List Int->Int
 |a::l,b::m=>if Lib.compareInt a b≠0 then Lib.compareInt a b else Zzb l m
 |_,_=>0
theorem Zzy (a b:Int):(a<b/\Lib.compareInt a b= -1)\/(a=b/\Lib.compareInt a b=0)\/(b<a/\Lib.compareInt a b=1):=by
 unfold Lib.compareInt
 split
 ·exact .inl ⟨by assumption,rfl⟩
 ·split
  ·exact .inr (.inr ⟨by omega,rfl⟩)
  ·exact .inr (.inl ⟨by omega,rfl⟩)
theorem Zzi (a b:Int) (l m:List Int):(a<b/\Zzb (a::l) (b::m)= -1)\/(a=b/\Zzb (a::l) (b::m)=Zzb l m)\/(b<a/\Zzb (a::l) (b::m)=1):=by
 have e0:Zzb (a::l) (b::m)=if Lib.compareInt a b≠0 then Lib.compareInt a b else Zzb l m:=rfl
 rw[e0]
 rcases Zzy a b with ⟨h,e⟩|⟨h,e⟩|⟨h,e⟩<;>rw[e]<;>simp[h]
theorem Zzs:∀ l m:List Int,Zzb l m= -1\/Zzb l m=0\/Zzb l m=1
 |[],_=>.inr (.inl rfl)
 |_::_,[]=>.inr (.inl rfl)
 |a::l,b::m=>by
  rcases Zzi a b l m with ⟨-,e⟩|⟨-,e⟩|⟨-,e⟩<;>rw[e]
  ·exact .inl rfl
  ·exact Zzs l m
  ·exact .inr (.inr rfl)
theorem Zzt:∀ l:List Int,Zzb l l=0
 |[]=>rfl
 |a::l=>by
  rcases Zzi a a l l with ⟨h,-⟩|⟨-,e⟩|⟨h,-⟩
  ·omega
  ·rw[e];exact Zzt l
  ·omega
theorem Yao:∀ {l m:List Int},l.length=m.length->Zzb l m=0->l=m
 |[],[],_,_=>rfl
 |[],_::_,h,_=>by simp at h
 |_::_,[],h,_=>by simp at h
 |a::l,b::m,h,e=>by
  rcases Zzi a b l m with ⟨-,e'⟩|⟨e1,e'⟩|⟨-,e'⟩<;>rw[e'] at e
  ·omega
  ·rw[e1,Yao (by simpa using h) e]
  ·omega
theorem Zzx:∀ {l m:List Int},Zzb m l= -Zzb l m
 |[],[]=>rfl
 |[],_::_=>rfl
 |_::_,[]=>rfl
 |a::l,b::m=>by
  rcases Zzi a b l m with ⟨h,e⟩|⟨h,e⟩|⟨h,e⟩<;>rcases Zzi b a m l with ⟨h',e'⟩|⟨h',e'⟩|⟨h',e'⟩<;>rw[e,e']<;>first|omega|exact Zzx
theorem Zzn:∀ {l m k:List Int},l.length=m.length->m.length=k.length->Zzb l m<0->Zzb m k<0->Zzb l k<0
 |[],m,k,h,h',h1,h2=>by simp[Zzb] at h1
 |_::_,[],k,h,h',h1,h2=>by simp at h
 |_::_,_::_,[],h,h',h1,h2=>by simp at h'
 |a::l,b::m,c::k,h,h',h1,h2=>by
  rcases Zzi a b l m with ⟨g,e⟩|⟨g,e⟩|⟨g,e⟩<;>rcases Zzi b c m k with ⟨g',e'⟩|⟨g',e'⟩|⟨g',e'⟩<;>rw[e] at h1<;>rw[e'] at h2<;>rcases Zzi a c l k with ⟨g2,e2⟩|⟨g2,e2⟩|⟨g2,e2⟩<;>rw[e2]<;>first|omega|exact Zzn (by simpa using h) (by simpa using h') h1 h2
def orL:List Int->Int
 |[]=>0
 |a::l=>if a≠0 then a else orL l
theorem Yaz:∀ {l l':List Int} (m m':List Int),l.length=l'.length->Zzb (l++m) (l'++m')=if Zzb l l'≠0 then Zzb l l' else Zzb m m'
 |[],[],m,m',_=>by simp[Zzb]
 |[],_::_,_,_,h=>by simp at h
 |_::_,[],_,_,h=>by simp at h
 |a::l,b::l',m,m',h=>by
  rw[List.cons_append,List.cons_append]
  rcases Zzi a b (l++m) (l'++m') with ⟨h1,e⟩|⟨h1,e⟩|⟨h1,e⟩<;>rcases Zzi a b l l' with ⟨h2,e'⟩|⟨h2,e'⟩|⟨h2,e'⟩<;>rw[e,e']<;>first|omega|(simp;done)|exact Yaz m m' (by simpa using h)
theorem or3 (a b c a' b' c':Int):orL [Lib.compareInt a a',Lib.compareInt b b',Lib.compareInt c c']=Zzb [a,b,c] [a',b',c']:=by
 simp only[orL,Zzb]
theorem or5 (a b c d e a' b' c' d' e':Int):orL [Zzb [a,b,c] [a',b',c'],Lib.compareInt d d',Lib.compareInt e e']=Zzb [a,b,c,d,e] [a',b',c',d',e']:=by
 rw[show [a,b,c,d,e]=[a,b,c]++[d,e] from rfl,show [a',b',c',d',e']=[a',b',c']++[d',e'] from rfl,Yaz (l:=[a,b,c]) (l':=[a',b',c']) _ _ rfl];simp only[orL,Zzb]
theorem or4 (a b c d a' b' c' d':Int):orL [Zzb [a,b,c] [a',b',c'],Lib.compareInt d d']=Zzb [a,b,c,d] [a',b',c',d']:=by
 rw[show [a,b,c,d]=[a,b,c]++[d] from rfl,show [a',b',c',d']=[a',b',c']++[d'] from rfl,Yaz (l:=[a,b,c]) (l':=[a',b',c']) _ _ rfl];simp only[orL,Zzb]
theorem Ydm {α:Type} {r:α->α->Prop} (hi:∀ x,¬ r x x) (ht:∀ x y z,r x y->r y z->r x z) {L L':List α} (h:L.Pairwise r) (h':L'.Pairwise r) (hm:∀ x,x∈L↔x∈L'):L=L':=by
 have nd:∀ {l:List α},l.Pairwise r->l.Nodup:=fun hl=>List.nodup_iff_pairwise_ne.2 (hl.imp fun {a b} hab (e:a=b)=>hi a (by rw[<-e] at hab;exact hab))
 refine List.Perm.eq_of_pairwise (le:=r) (fun x y _ _ h1 h2=>absurd (ht x y x h1 h2) (hi x)) h h' ?_;exact (List.perm_ext_iff_of_nodup (nd h) (nd h')).2 hm
section
open Go.RowKit Go.Shelf Go.Sort
def Lay (W w':World):Prop:=∃ n os,w'=grow (W.drewN n) os
theorem Lay.refl (W:World):Lay W W:=⟨0,#[],by rw[World.drewN_zero];simp⟩
theorem Lay.alloc {W w':World} (h:Lay W w') (o:Obj):Lay W (w'.alloc o):=by
 obtain⟨n,os,rfl⟩:=h;exact⟨n,os++ #[o],by rw[alloc_eq_grow,grow_grow]⟩
theorem Lay.drewN {W w':World} (h:Lay W w') (m:Nat):Lay W (w'.drewN m):=by
 obtain⟨n,os,rfl⟩:=h;exact⟨n+m,os,by simp[grow,World.drewN,Nat.add_assoc]⟩
theorem Lay.drew {W w':World} (h:Lay W w'):Lay W w'.drew:=h.drewN 1
theorem Lay.trans {W w' w'':World} (h:Lay W w') (h':Lay w' w''):Lay W w'':=by
 obtain⟨n,os,rfl⟩:=h';obtain⟨m,os',e⟩:=h.drewN n;exact⟨m,os'++os,by rw[e,grow_grow]⟩
theorem Lay.grown {W w':World} (h:Lay W w'):W.grownBy w' none:=by
 obtain⟨n,os,rfl⟩:=h;exact⟨rfl,rfl,rfl,by simp[grow],fun i hi _=>by show (W.heap++os)[i]?=W.heap[i]?;rw[Array.getElem?_append_left hi]⟩
theorem or_any (l:List Int) (b c:Nat) (W:World) (hl:l.length<=9) (hb:W.heap[b]?=some (.cells (l.map (Value.int .i64)).toArray 3)):
  Calls Tryz.prog 88 #[.slice (some ⟨b,0,none⟩) l.length c] W fun e w'=>e=.returned (.int .i64 (orL l))/\w'=W:=by
 have HB:=hid hb;clear hb;go_enter Tryz.func88,Tryz.ntmps88;go_wp2;go_loopw [8] (fun s8 wr=>∃ k:Nat,k<=l.length/\s8=.int .i64 k/\Hid (orL l=orL (l.drop k))/\Hid (wr=W)) (fun s8 _=>l.length-(intOf s8).toNat)
 case atStart=>exact⟨0,Ln _,rfl,rfl,rfl⟩
 case round=>
  obtain⟨k,hk,rfl,hor,hw⟩:=hrel
  by_cases hkl:k<l.length
  ·obtain⟨x,hx⟩:∃ x,l[k]?=some x:=⟨_,Ld hkl⟩
   have hcell:wr.cell? ⟨b,k,none⟩=some (.int .i64 x):=by rw[hw.out,(Za HB.out).1];simp[hx]
   have hd:orL (l.drop k)=if x≠0 then x else orL (l.drop (k+1)):=by
    rw[List.drop_eq_getElem_cons hkl];have:=(Le hx).2;rw[this];rfl
   have HD:=hid hd;clear hd hx
   by_cases hx0:x=0
   ·subst hx0;go_wp2;go_roundw
    case rel=>exact⟨k+1,by omega,by go_num,hid (by rw[hor.out,HD.out];rfl),hw⟩
    case measure=>simp[intOf];omega
   ·go_wp2;go_ret;exact⟨by rw[hor.out,HD.out,if_pos hx0];rfl,hw.out⟩
  ·obtain rfl:k=l.length:=by omega
   go_wp2;go_ret;exact⟨by rw[hor.out,List.drop_length];rfl,hw.out⟩
theorem Zyz {W W':World} (hg:W.grownBy W' none) {q:Addr} {v:Value} (h:W.cell? q=some v):W'.cell? q=some v:=
 (Lj (hg.block q.block (World.block_lt_of_cell? W q h) (by simp))).trans h
theorem or_at {l:List Int} {k:Nat} {v:Value} {W:World} (h:W.heap[k]?=some (.cells (l.map (Value.int .i64)).toArray 3)) (hl:l.length<=9) (hv:v=.slice (some ⟨k,0,none⟩) l.length l.length) {r:Int} (hr:orL l=r):Calls Tryz.prog 88 #[v] W fun e w'=>e=.returned (.int .i64 r)/\w'=W:=by
 subst hv hr;exact or_any l k _ W hl h
theorem Ybc (a b c a' b' c':Int) (W:World):Calls Tryz.prog 89 #[.agg #[.int .i64 a,.int .i64 b,.int .i64 c],.agg #[.int .i64 a',.int .i64 b',.int .i64 c']] W fun e w'=>e=.returned (.int .i64 (Zzb [a,b,c] [a',b',c']))/\Lay W w':=by
 obtain⟨W1,hW1⟩:∃ W1:World,W1=(W.alloc (.cells #[.int .i64 a,.int .i64 b,.int .i64 c] 41)).alloc (.cells #[.int .i64 a',.int .i64 b',.int .i64 c'] 41):=⟨_,rfl⟩
 have hL:Lay W W1:=by rw[hW1];exact ((Lay.refl W).alloc _).alloc _
 have hb0:W1.heap[W.heap.size]?=some (.cells #[.int .i64 a,.int .i64 b,.int .i64 c] 41 (0,0)):=by rw[hW1];exact Zc (La _ _) _
 have hb1:W1.heap[W.heap.size+1]?=some (.cells #[.int .i64 a',.int .i64 b',.int .i64 c'] 41 (0,0)):=by
  have:=La (W.alloc (.cells #[.int .i64 a,.int .i64 b,.int .i64 c] 41)) (.cells #[.int .i64 a',.int .i64 b',.int .i64 c'] 41);simp only[World.size_alloc] at this;rw[hW1];exact this
 obtain⟨u,hu⟩:∃ u,u=W.heap.size:=⟨_,rfl⟩
 rw[<-hu] at hb0 hb1;have x0:W1.cell? ⟨u,0,none⟩=some (.int .i64 a):=(Za hb0).1 0;have x1:W1.cell? ⟨u,1,none⟩=some (.int .i64 b):=(Za hb0).1 1;have x2:W1.cell? ⟨u,2,none⟩=some (.int .i64 c):=(Za hb0).1 2;have y0:W1.cell? ⟨u+1,0,none⟩=some (.int .i64 a'):=(Za hb1).1 0;have y1:W1.cell? ⟨u+1,1,none⟩=some (.int .i64 b'):=(Za hb1).1 1;have y2:W1.cell? ⟨u+1,2,none⟩=some (.int .i64 c'):=(Za hb1).1 2;have HL:=hid hL;have HX:=hid (show ∀ W',W1.grownBy W' none->W'.cell? ⟨u,0,none⟩=some (.int .i64 a)/\W'.cell? ⟨u,1,none⟩=some (.int .i64 b)/\W'.cell? ⟨u,2,none⟩=some (.int .i64 c)/\W'.cell? ⟨u+1,0,none⟩=some (.int .i64 a')/\W'.cell? ⟨u+1,1,none⟩=some (.int .i64 b')/\W'.cell? ⟨u+1,2,none⟩=some (.int .i64 c') from fun W' hg=>⟨Zyz hg x0,Zyz hg x1,Zyz hg x2,Zyz hg y0,Zyz hg y1,Zyz hg y2⟩);have Hor:=hid (fun (W':World) (k:Nat) (h:W'.heap[k]?=some (.cells #[.int .i64 (Lib.compareInt a a'),.int .i64 (Lib.compareInt b b'),.int .i64 (Lib.compareInt c c')] 3))=>show Calls Tryz.prog 88 #[.slice (some ⟨k,0,none⟩) 3 3] W' fun e w'=>e=.returned (.int .i64 (Zzb [a,b,c] [a',b',c']))/\w'=W' from or_at (l:=[Lib.compareInt a a',Lib.compareInt b b',Lib.compareInt c c']) h (by simp) rfl (or3 _ _ _ _ _ _));have hg:=Lb W1 none;clear hL hb0 hb1 x0 x1 x2 y0 y1 y2;go_enter Tryz.func89,Tryz.ntmps89;go_upto_region 1 with (fail)
 rw[<-hu,<-hW1];clear hW1 hu;go_region_held3 (fun W'=>W'.cell? ⟨u,0,none⟩=some (.int .i64 a)/\W'.cell? ⟨u,1,none⟩=some (.int .i64 b)/\W'.cell? ⟨u,2,none⟩=some (.int .i64 c)/\W'.cell? ⟨u+1,0,none⟩=some (.int .i64 a')/\W'.cell? ⟨u+1,1,none⟩=some (.int .i64 b')/\W'.cell? ⟨u+1,2,none⟩=some (.int .i64 c')) (first|exact HX.out _ hg|exact HX.out _ (Zf hg)|exact HX.out _ (Zd hg _)|exact HX.out _ (Zf (Zd hg _))|exact HX.out _ (Zd (Zf hg) _)) ((first|(go_simp;go_at_call 90;refine (Tryz.cmp_Compare_int _ _ _).mono ?_;rintro e w' ⟨rfl,rfl⟩)|(go_simp;go_at_call 88;refine (Hor.out _ _ (by first|exact La _ _|exact La W1 _)).mono ?_;rintro e w' ⟨rfl,rfl⟩)))
 all_goals (go_wp2_with fail;go_ret)
 all_goals exact⟨rfl,by first|exact HL.out.alloc _|exact HL.out.drew.alloc _|exact (HL.out.alloc _).drew⟩
theorem Yae (a b c d e a' b' c' d' e':Int) (W:World):Calls Tryz.prog 47 #[.agg #[.int .i64 a,.int .i64 b,.int .i64 c,.int .i64 d,.int .i64 e],.agg #[.int .i64 a',.int .i64 b',.int .i64 c',.int .i64 d',.int .i64 e']] W fun r w'=>r=.returned (.int .i64 (Zzb [a,b,c,d,e] [a',b',c',d',e']))/\Lay W w':=by
 obtain⟨W1,hW1⟩:∃ W1:World,W1=(W.alloc (.cells #[.int .i64 a,.int .i64 b,.int .i64 c,.int .i64 d,.int .i64 e] 93)).alloc (.cells #[.int .i64 a',.int .i64 b',.int .i64 c',.int .i64 d',.int .i64 e'] 93):=⟨_,rfl⟩
 have hL:Lay W W1:=by rw[hW1];exact ((Lay.refl W).alloc _).alloc _
 have hb0:W1.heap[W.heap.size]?=some (.cells #[.int .i64 a,.int .i64 b,.int .i64 c,.int .i64 d,.int .i64 e] 93 (0,0)):=by rw[hW1];exact Zc (La _ _) _
 have hb1:W1.heap[W.heap.size+1]?=some (.cells #[.int .i64 a',.int .i64 b',.int .i64 c',.int .i64 d',.int .i64 e'] 93 (0,0)):=by
  have:=La (W.alloc (.cells #[.int .i64 a,.int .i64 b,.int .i64 c,.int .i64 d,.int .i64 e] 93)) (.cells #[.int .i64 a',.int .i64 b',.int .i64 c',.int .i64 d',.int .i64 e'] 93);simp only[World.size_alloc] at this;rw[hW1];exact this
 obtain⟨u,hu⟩:∃ u,u=W.heap.size:=⟨_,rfl⟩
 rw[<-hu] at hb0 hb1;have HL:=hid hL
 have HX:=hid (show ∀ W',W1.grownBy W' none->W'.cell? ⟨u,0,none⟩=some (.int .i64 a)/\W'.cell? ⟨u,1,none⟩=some (.int .i64 b)/\W'.cell? ⟨u,2,none⟩=some (.int .i64 c)/\W'.cell? ⟨u,3,none⟩=some (.int .i64 d)/\W'.cell? ⟨u,4,none⟩=some (.int .i64 e)/\W'.cell? ⟨u+1,0,none⟩=some (.int .i64 a')/\W'.cell? ⟨u+1,1,none⟩=some (.int .i64 b')/\W'.cell? ⟨u+1,2,none⟩=some (.int .i64 c')/\W'.cell? ⟨u+1,3,none⟩=some (.int .i64 d')/\W'.cell? ⟨u+1,4,none⟩=some (.int .i64 e') from
                   fun W' hg=>⟨Zyz hg ((Za hb0).1 0),Zyz hg ((Za hb0).1 1),Zyz hg ((Za hb0).1 2),Zyz hg ((Za hb0).1 3),Zyz hg ((Za hb0).1 4),Zyz hg ((Za hb1).1 0),Zyz hg ((Za hb1).1 1),Zyz hg ((Za hb1).1 2),Zyz hg ((Za hb1).1 3),Zyz hg ((Za hb1).1 4)⟩)
 have Hor:=hid (fun (W':World) (k:Nat) (h:W'.heap[k]?=some (.cells #[.int .i64 (Zzb [a,b,c] [a',b',c']),.int .i64 (Lib.compareInt d d'),.int .i64 (Lib.compareInt e e')] 3))=>show Calls Tryz.prog 88 #[.slice (some ⟨k,0,none⟩) 3 3] W' fun r w'=>r=.returned (.int .i64 (Zzb [a,b,c,d,e] [a',b',c',d',e']))/\w'=W' from or_at (l:=[Zzb [a,b,c] [a',b',c'],Lib.compareInt d d',Lib.compareInt e e']) h (by simp) rfl (or5 _ _ _ _ _ _ _ _ _ _));have hg:=Lb W1 none;have hy:=Lay.refl W1;clear hL hb0 hb1;go_enter Tryz.func47,Tryz.ntmps47;go_upto_region 1 with (fail)
 rw[<-hu,<-hW1];clear hW1 hu;go_region_held3 (fun W'=>W'.cell? ⟨u,0,none⟩=some (.int .i64 a)/\W'.cell? ⟨u,1,none⟩=some (.int .i64 b)/\W'.cell? ⟨u,2,none⟩=some (.int .i64 c)/\W'.cell? ⟨u,3,none⟩=some (.int .i64 d)/\W'.cell? ⟨u,4,none⟩=some (.int .i64 e)/\W'.cell? ⟨u+1,0,none⟩=some (.int .i64 a')/\W'.cell? ⟨u+1,1,none⟩=some (.int .i64 b')/\W'.cell? ⟨u+1,2,none⟩=some (.int .i64 c')/\W'.cell? ⟨u+1,3,none⟩=some (.int .i64 d')/\W'.cell? ⟨u+1,4,none⟩=some (.int .i64 e')) (first|exact HX.out _ hg|exact HX.out _ (Zf hg)|exact HX.out _ (Zd hg _)|exact HX.out _ (Zf (Zd hg _))|exact HX.out _ (Zd (Zf hg) _)) ((first|(go_simp;go_at_call 90;refine (Tryz.cmp_Compare_int _ _ _).mono ?_;rintro r w' ⟨rfl,rfl⟩)|(go_simp;go_at_call 89;refine (Ybc _ _ _ _ _ _ _).mono ?_;rintro r w2 ⟨rfl,hl2⟩;have hy:=(Lay.trans (by first|exact hy|exact hy.drew) hl2);have hg:=hy.grown;clear hl2)|(go_simp;go_at_call 88;refine (Hor.out _ _ (by first|exact La _ _|exact La W1 _|exact La w2 _)).mono ?_;rintro r w' ⟨rfl,rfl⟩)))
 all_goals (go_wp2_with fail;go_ret)
 all_goals exact⟨rfl,HL.out.trans (by first|exact hy.alloc _|exact hy.drew.alloc _|exact (hy.alloc _).drew)⟩
theorem Yaq (a b c d a' b' c' d':Int) (W:World):Calls Tryz.prog 49 #[.agg #[.int .i64 a,.int .i64 b,.int .i64 c,.int .i64 d],.agg #[.int .i64 a',.int .i64 b',.int .i64 c',.int .i64 d']] W fun r w'=>r=.returned (.int .i64 (Zzb [a,b,c,d] [a',b',c',d']))/\Lay W w':=by
 obtain⟨W1,hW1⟩:∃ W1:World,W1=(W.alloc (.cells #[.int .i64 a,.int .i64 b,.int .i64 c,.int .i64 d] 81)).alloc (.cells #[.int .i64 a',.int .i64 b',.int .i64 c',.int .i64 d'] 81):=⟨_,rfl⟩
 have hL:Lay W W1:=by rw[hW1];exact ((Lay.refl W).alloc _).alloc _
 have hb0:W1.heap[W.heap.size]?=some (.cells #[.int .i64 a,.int .i64 b,.int .i64 c,.int .i64 d] 81 (0,0)):=by rw[hW1];exact Zc (La _ _) _
 have hb1:W1.heap[W.heap.size+1]?=some (.cells #[.int .i64 a',.int .i64 b',.int .i64 c',.int .i64 d'] 81 (0,0)):=by
  have:=La (W.alloc (.cells #[.int .i64 a,.int .i64 b,.int .i64 c,.int .i64 d] 81)) (.cells #[.int .i64 a',.int .i64 b',.int .i64 c',.int .i64 d'] 81);simp only[World.size_alloc] at this;rw[hW1];exact this
 obtain⟨u,hu⟩:∃ u,u=W.heap.size:=⟨_,rfl⟩
 rw[<-hu] at hb0 hb1;have HL:=hid hL
 have HX:=hid (show ∀ W',W1.grownBy W' none->W'.cell? ⟨u,0,none⟩=some (.int .i64 a)/\W'.cell? ⟨u,1,none⟩=some (.int .i64 b)/\W'.cell? ⟨u,2,none⟩=some (.int .i64 c)/\W'.cell? ⟨u,3,none⟩=some (.int .i64 d)/\W'.cell? ⟨u+1,0,none⟩=some (.int .i64 a')/\W'.cell? ⟨u+1,1,none⟩=some (.int .i64 b')/\W'.cell? ⟨u+1,2,none⟩=some (.int .i64 c')/\W'.cell? ⟨u+1,3,none⟩=some (.int .i64 d') from
                   fun W' hg=>⟨Zyz hg ((Za hb0).1 0),Zyz hg ((Za hb0).1 1),Zyz hg ((Za hb0).1 2),Zyz hg ((Za hb0).1 3),Zyz hg ((Za hb1).1 0),Zyz hg ((Za hb1).1 1),Zyz hg ((Za hb1).1 2),Zyz hg ((Za hb1).1 3)⟩)
 have Hor:=hid (fun (W':World) (k:Nat) (h:W'.heap[k]?=some (.cells #[.int .i64 (Zzb [a,b,c] [a',b',c']),.int .i64 (Lib.compareInt d d')] 3))=>show Calls Tryz.prog 88 #[.slice (some ⟨k,0,none⟩) 2 2] W' fun r w'=>r=.returned (.int .i64 (Zzb [a,b,c,d] [a',b',c',d']))/\w'=W' from or_at (l:=[Zzb [a,b,c] [a',b',c'],Lib.compareInt d d']) h (by simp) rfl (or4 _ _ _ _ _ _ _ _));have hg:=Lb W1 none;have hy:=Lay.refl W1;clear hL hb0 hb1;go_enter Tryz.func49,Tryz.ntmps49;go_upto_region 1 with (fail)
 rw[<-hu,<-hW1];clear hW1 hu;go_region_held3 (fun W'=>W'.cell? ⟨u,0,none⟩=some (.int .i64 a)/\W'.cell? ⟨u,1,none⟩=some (.int .i64 b)/\W'.cell? ⟨u,2,none⟩=some (.int .i64 c)/\W'.cell? ⟨u,3,none⟩=some (.int .i64 d)/\W'.cell? ⟨u+1,0,none⟩=some (.int .i64 a')/\W'.cell? ⟨u+1,1,none⟩=some (.int .i64 b')/\W'.cell? ⟨u+1,2,none⟩=some (.int .i64 c')/\W'.cell? ⟨u+1,3,none⟩=some (.int .i64 d')) (first|exact HX.out _ hg|exact HX.out _ (Zf hg)|exact HX.out _ (Zd hg _)|exact HX.out _ (Zf (Zd hg _))|exact HX.out _ (Zd (Zf hg) _)) ((first|(go_simp;go_at_call 90;refine (Tryz.cmp_Compare_int _ _ _).mono ?_;rintro r w' ⟨rfl,rfl⟩)|(go_simp;go_at_call 89;refine (Ybc _ _ _ _ _ _ _).mono ?_;rintro r w2 ⟨rfl,hl2⟩;have hy:=(Lay.trans (by first|exact hy|exact hy.drew) hl2);have hg:=hy.grown;clear hl2)|(go_simp;go_at_call 88;refine (Hor.out _ _ (by first|exact La _ _|exact La W1 _|exact La w2 _)).mono ?_;rintro r w' ⟨rfl,rfl⟩)))
 all_goals (go_wp2_with fail;go_ret)
 all_goals exact⟨rfl,HL.out.trans (by first|exact hy.alloc _|exact hy.drew.alloc _|exact (hy.alloc _).drew)⟩
end

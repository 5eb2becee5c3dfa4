/- A run's data. No condition. -/
import Derived.Test.YtphnnmecmiodhaaGreatEChn
import Derived.Deep.CutRange
import Derived.Test.YtphnnmecmiodhaaGreatENa
set_option maxHeartbeats 4000000
set_option linter.all false
namespace Go.Proofs.YtphnnmecmiodhaaGreat
open Lib(hid)
structure GVal where
 kind:Nat
 obj:Nat
 n:Nat
 deriving DecidableEq
def nilV:GVal:=⟨0,0,0⟩
abbrev GHp:=List (Nat×List GVal)
def Ya (h:GHp):Nat:=(h.map fun o=>o.2.length).sum
def Kv (h:GHp) (x:GVal):Option GVal:=(h[x.obj]?).bind fun o=>o.2[x.n]?
def Yi (h:GHp) (x:GVal):Nat:=if x.kind≠1 then 2 else if (Kv h x).isSome then 0 else 3
def Zwv (h:GHp) (x:GVal):Nat:=((h[x.obj]?).map (·.1)).getD 0+x.n
def Zqc (h:GHp) (x:GVal):Nat:=((h[x.obj]?).map (·.2.length)).getD 0
def V1 (h:GHp) (x:GVal) (k:Int):GVal×Nat:=
 if Yi h x=0 then (if-(x.n:Int)<=k/\k<(Zqc h x:Int)-(x.n:Int) then (⟨1,x.obj,((x.n:Int)+k).toNat⟩,0) else (nilV,3)) else (nilV,Yi h x)
def Uf (h:GHp) (x v:GVal):GHp:=match h[x.obj]? with
 |some o=>h.set x.obj (o.1,o.2.set x.n v)
 |none=>h
structure GAct where
 pt:GPt
 vars:List (Int×GVal)
structure GM where
 heap:GHp
 acts:List GAct
 stop:Nat
 ent:GPt×Nat
 did:Bool
section
open Go.RowKit Go.Shelf
def Xh (v:GVal):List Value:=[.int .u8 v.kind,.int .i64 v.obj,.int .i64 v.n]
def Yf (v:GVal):Value:=.agg #[.int .u8 v.kind,.int .i64 v.obj,.int .i64 v.n]
def Zgq (n:Nat):Value:=.pointer (some ⟨n,0,none⟩)
def encZ (k:Int):Value:=.int .i64 k
theorem keyZ {P:Program} {kt:TypeId} (h:P.underlying kt=some (.int .i64)):K4 P kt encZ:=by
 refine⟨⟨_,h,fun a=>by simp[MapKept.IsKey,encZ],fun a b=>?_⟩,fun a=>by simp[Instr.sameBits,encZ]⟩;simp only[Instr.sameNow,encZ,if_true]
theorem nd_inj {α:Type} [BEq α] [LawfulBEq α] {l:List α} (h:l.Nodup) {i j:Nat} {x:α} (h1:l[i]?=some x) (h2:l[j]?=some x):i=j:=by
 obtain⟨l1,m1⟩:=Le h1;obtain⟨l2,m2⟩:=Le h2;have e1:=h.idxOf_getElem i l1;have e2:=h.idxOf_getElem j l2;rw[m1] at e1;rw[m2] at e2;omega
theorem nd_ne {l:List (Nat×Nat)} {f:Nat×Nat->Nat} (hn:(l.map f).Nodup) {i j:Nat} {a b:Nat×Nat} (h1:l[i]?=some a) (h2:l[j]?=some b) (hij:i≠j):f a≠f b:=fun q=>hij
 (nd_inj hn (x:=f a) (by rw[List.getElem?_map,h1];rfl) (by rw[List.getElem?_map,h2,q];rfl))
structure HAd where
 h:Nat
 v:Value
 os:List (Nat×Nat)
def HQ (a:HAd) (n:Nat):Prop:=n=a.h\/a.v.ownBlock=some n\/∃ o∈a.os,n=o.1\/n=o.2
structure HpAt (W:World) (base:Nat) (a:HAd) (hp:GHp):Prop where
 len:a.os.length=hp.length
 blk:W.heap[a.h]?=some (.cells #[a.v,.int .i64 (Ya hp:Nat),.int .i64 16384] 197 (0,0))
 row:W.ownsRow base 202 1 a.v a.os.length (a.os.map fun o=>Zgq o.1)
 obj:∀ (i:Nat) (o:Nat×Nat) (x:Nat×List GVal),a.os[i]?=some o->hp[i]?=some x->base<=o.1/\base<=o.2/\W.heap[o.1]?=some (.cells #[.slice (some ⟨o.2,0,none⟩) x.2.length x.2.length,.int .i64 x.1] 206 (0,0))/\W.heap[o.2]?=some (.cells (x.2.flatMap Xh).toArray 72 (0,0))
 nd:(a.os.map fun o=>o.2).Nodup
section
variable {W W':World} {base:Nat} {a:HAd} {hp:GHp}
theorem Vh {v:Value} {e:TypeId} {sz n k:Nat} {xs:List Value} (h:W.ownsRow base e sz v n xs) (hk:v.ownBlock=some k):∃ cs,W.heap[k]?=some (.cells cs e (0,0)):=by
 rcases h.2 with ⟨rfl,_⟩|⟨g,cap,cur,rfl,_,hh,_⟩
 ·cases hk
 ·simp only[Value.ownBlock,Option.some.injEq] at hk;subst hk;exact⟨cur,hh⟩
theorem HpAt.got (h:HpAt W base a hp) {o:Nat×Nat} (ho:o∈a.os):∃ (i:Nat) (x:Nat×List GVal),a.os[i]?=some o/\hp[i]?=some x:=by
 obtain⟨i,hi,e⟩:=List.mem_iff_getElem.1 ho;have:=h.len;exact⟨i,hp[i]'(by omega),by rw[<-e];exact Ld hi,Ld _⟩
theorem HpAt.ty (h:HpAt W base a hp) {n:Nat} (hn:HQ a n):(base<=n\/n=a.h)/\∃ cs t,W.heap[n]?=some (.cells cs t (0,0))/\(t=197\/t=202\/t=206\/t=72):=by
 rcases hn with rfl|hn|⟨o,ho,hn⟩
 ·exact⟨.inr rfl,_,_,h.blk,.inl rfl⟩
 ·obtain⟨cs,hc⟩:=Vh h.row hn;exact⟨.inl (h.row.lt n hn).1,cs,_,hc,.inr (.inl rfl)⟩
 ·obtain⟨i,x,h1,h2⟩:=h.got ho;obtain⟨b1,b2,c1,c2⟩:=h.obj i o x h1 h2
  rcases hn with rfl|rfl
  ·exact⟨.inl b1,_,_,c1,.inr (.inr (.inl rfl))⟩
  ·exact⟨.inl b2,_,_,c2,.inr (.inr (.inr rfl))⟩
theorem HpAt.lt (h:HpAt W base a hp) {n:Nat} (hn:HQ a n):n<W.heap.size:=by
 obtain⟨_,cs,t,hc,_⟩:=h.ty hn;exact Ze hc
theorem HpAt.chg {Q:Nat->Prop} (h:HpAt W base a hp) (hc:Chg Q W W') (hq:∀ n,HQ a n->¬ Q n):HpAt W' base a hp where
 len:=h.len
 blk:=hc.at_ h.blk (hq _ (.inl rfl))
 row:=hc.owns h.row (fun g e=>hq g (.inr (.inl e)))
 obj:=fun i o x h1 h2=>by
  obtain⟨b1,b2,c1,c2⟩:=h.obj i o x h1 h2;have hm:=Ll h1;exact⟨b1,b2,hc.at_ c1 (hq _ (.inr (.inr ⟨o,hm,.inl rfl⟩))),hc.at_ c2 (hq _ (.inr (.inr ⟨o,hm,.inr rfl⟩)))⟩
 nd:=h.nd
theorem X4 {n m:Nat} {cs cs':Array Value} {t t':TypeId} {z z':Nat×Nat} (h:W.heap[n]?=some (.cells cs t z)) (h':W.heap[m]?=some (.cells cs' t' z')) (ht:t≠t'):n≠m:=by
 rintro rfl;rw[h] at h';injection h' with h'
 injection h' with _ h'
 exact ht h'
theorem Ko {n m:Nat} {cs:Array Value} {t:TypeId} {z:Nat×Nat} {κ β:Type} {ek:κ->Value} {ev:β->Value} {l:List (κ×β)} (h:W.heap[n]?=some (.cells cs t z)) (h':W.heap[m]?=some (Z7 ek ev l)):n≠m:=by
 rintro rfl;rw[h] at h'
 cases h'
theorem HpAt.store (h:HpAt W base a hp) {i:Nat} {o:Nat×Nat} {x:Nat×List GVal} (h1:a.os[i]?=some o) (h2:hp[i]?=some x) {l:List GVal} (hl:l.length=x.2.length) (hc:Chg (fun n=>n=o.2) W W') (hb:W'.heap[o.2]?=some (.cells (l.flatMap Xh).toArray 72 (0,0))):
  HpAt W' base a (hp.set i (x.1,l)):=by
 obtain⟨b1,b2,c1,c2⟩:=h.obj i o x h1 h2;have hi:=(Le h2).1;have hs:Ya (hp.set i (x.1,l))=Ya hp:=by
  unfold Ya;rw[List.map_set]
  congr 1
  apply List.ext_getElem?
  intro j;rw[List.getElem?_set]
  split
  ·rename_i e
   subst e;rw[if_pos (by simpa using hi),List.getElem?_map,h2];simp[hl]
  ·rfl
 refine⟨by rw[List.length_set];exact h.len,?_,?_,fun j o' x' g1 g2=>?_,h.nd⟩
 ·rw[hs];exact hc.at_ h.blk (X4 h.blk c2 (by decide))
 ·refine hc.owns h.row fun g e=>?_
  obtain⟨cs,hg⟩:=Vh h.row e;exact X4 hg c2 (by decide)
 ·by_cases e:i=j
  ·subst e;rw[h1] at g1
   cases g1
   rw[List.getElem?_set_self hi] at g2
   cases g2
   refine⟨b1,b2,?_,hb⟩;simp only[hl];exact hc.at_ c1 (X4 c1 c2 (by decide))
  ·rw[List.getElem?_set_ne e] at g2;obtain⟨d1,d2,e1,e2⟩:=h.obj j o' x' g1 g2;refine⟨d1,d2,hc.at_ e1 (X4 e1 c2 (by decide)),hc.at_ e2 fun q=>nd_ne (f:=fun o=>o.2) h.nd h1 g1 e q.symm⟩
theorem HpAt.push (h:HpAt W base a hp) {v':Value} {o:Nat×Nat} {x:Nat×List GVal} (hc:Chg (fun n=>n=a.h\/a.v.ownBlock=some n) W W')
  (hb:W'.heap[a.h]?=some (.cells #[v',.int .i64 ((Ya hp+x.2.length:Nat)),.int .i64 16384] 197 (0,0)))
  (hr:W'.ownsRow base 202 1 v' (a.os.length+1) ((a.os.map fun o=>Zgq o.1)++[Zgq o.1]))
  (h1:W'.heap[o.1]?=some (.cells #[.slice (some ⟨o.2,0,none⟩) x.2.length x.2.length,.int .i64 x.1] 206 (0,0))) (h2:W'.heap[o.2]?=some (.cells (x.2.flatMap Xh).toArray 72 (0,0)))
  (hn:W.heap.size<=o.2) (b1:base<=o.1) (b2:base<=o.2):HpAt W' base ⟨a.h,v',a.os++[o]⟩ (hp++[x]) where
 len:=by simp[h.len]
 blk:=by
  have e:Ya (hp++[x])=Ya hp+x.2.length:=by simp[Ya]
  rw[e];exact hb
 row:=by simpa using hr
 obj:=fun i o' x' g1 g2=>by
  simp only at g1
  by_cases hi:i<a.os.length
  ·rw[List.getElem?_append_left hi] at g1;rw[List.getElem?_append_left (by have:=h.len;omega)] at g2;obtain⟨d1,d2,e1,e2⟩:=h.obj i o' x' g1 g2;refine⟨d1,d2,hc.at_ e1 fun q=>?_,hc.at_ e2 fun q=>?_⟩
   ·rcases q with q|q
    ·exact X4 e1 h.blk (by decide) q
    ·obtain⟨cs,hg⟩:=Vh h.row q;exact X4 e1 hg (by decide) rfl
   ·rcases q with q|q
    ·exact X4 e2 h.blk (by decide) q
    ·obtain⟨cs,hg⟩:=Vh h.row q;exact X4 e2 hg (by decide) rfl
  ·have hi2:=(Le g1).1;simp only[List.length_append,List.length_singleton] at hi2;obtain rfl:i=a.os.length:=by omega
   rw[List.getElem?_append_right (Nat.le_refl _),Nat.sub_self] at g1;rw[List.getElem?_append_right (by rw[h.len];exact Nat.le_refl _),h.len,Nat.sub_self] at g2
   cases g1
   cases g2
   exact⟨b1,b2,h1,h2⟩
 nd:=by
  rw[List.map_append,List.map_singleton,List.nodup_append];refine⟨h.nd,by simp,fun y hy z hz e=>?_⟩;rw[List.mem_singleton.1 hz] at e;obtain⟨o',ho',e'⟩:=List.mem_map.1 hy;have:=h.lt (n:=y) (.inr (.inr ⟨o',ho',.inr e'.symm⟩));omega
end
structure SAd where
 m:Nat
 h:HAd
 v:Value
 av:List (Nat×Nat)
 ch:Int
 dg:Nat
def SQ (g:SAd) (n:Nat):Prop:=n=g.m\/HQ g.h n\/g.v.ownBlock=some n\/∃ a∈g.av,n=a.1\/n=a.2
def Vx (ms:Nat) (vp:Value) (g:SAd) (s:GM):Array Value:=
 #[Zgq ms,Zgq g.h.h,g.v,.int .u8 s.stop,.int .i64 s.ent.1.1,.int .i64 s.ent.1.2.1,.int .i64 s.ent.1.2.2,.int .i64 s.ent.2,.bool s.did,.int .i64 g.ch,vp,.map (some g.dg)]
def Zaq (x:GAct) (k:Nat):Array Value:= #[.int .i64 x.pt.1,.int .i64 x.pt.2.1,.int .i64 x.pt.2.2,.map (some k)]
structure Bs extends World where
 lo0:Nat
 h0:Nat
abbrev Bs.Fr (b:Bs) (n:Nat):Prop:=b.heap.size<=n\/n<b.lo0\/n=b.h0
structure MaAt (wB:Bs) (ms:Nat) (vp:Value) (dO:Obj) (W:World) (g:SAd) (s:GM):Prop where
 chg:Chg wB.Fr wB.toWorld W
 blk:W.heap[g.m]?=some (.cells (Vx ms vp g s) 145 (0,0))
 mb:wB.heap.size<=g.m
 heap:HpAt W wB.heap.size g.h s.heap
 len:g.av.length=s.acts.length
 row:W.ownsRow wB.heap.size 146 1 g.v g.av.length (g.av.map fun a=>Zgq a.1)
 act:∀ (i:Nat) (a:Nat×Nat) (x:GAct),g.av[i]?=some a->s.acts[i]?=some x->wB.heap.size<=a.1/\wB.heap.size<=a.2/\W.heap[a.1]?=some (.cells (Zaq x a.2) 149 (0,0))/\W.heap[a.2]?=some (Z7 encZ Yf x.vars)
 nd1:(g.av.map fun a=>a.1).Nodup
 nd2:(g.av.map fun a=>a.2).Nodup
 doing:W.heap[g.dg]?=some dO
 db:wB.heap.size<=g.dg
 hh:g.h.h=wB.h0
structure Stp (W:World) (g:SAd) (W':World) (g':SAd):Prop where
 chg:Chg (SQ g) W W'
 new:∀ n,SQ g' n->SQ g n\/W.heap.size<=n
 m:g'.m=g.m
 dg:g'.dg=g.dg
theorem Stp.refl (W:World) (g:SAd):Stp W g W g:=⟨Chg.refl _ _,fun _ h=>.inl h,rfl,rfl⟩
theorem Stp.trans {W W' W2:World} {g g' g2:SAd} (h:Stp W g W' g') (k:Stp W' g' W2 g2):Stp W g W2 g2 where
 chg:=h.chg.trans k.chg fun n hn hq=>by
  rcases h.new n hq with e|e
  ·exact e
  ·omega
 new:=fun n hn=>by
  rcases k.new n hn with e|e
  ·exact h.new n e
  ·exact .inr (Nat.le_trans h.chg.size e)
 m:=k.m.trans h.m
 dg:=k.dg.trans h.dg
theorem Stp.grow {W W' W2:World} {g g':SAd} (h:Stp W g W' g') (hg:W'.grownBy W2 none):Stp W g W2 g':=
 ⟨h.chg.trans (Chg.grown (Q:=fun _=>False) hg (fun r e=>by cases e)) (fun _ _ e=>e.elim),h.new,h.m,h.dg⟩
end
section
open Go.RowKit Go.Shelf
variable {wB:Bs} {ms:Nat} {vp:Value} {dO:Obj} {W W':World} {g:SAd} {s:GM}
theorem MaAt.got (h:MaAt wB ms vp dO W g s) {a:Nat×Nat} (ha:a∈g.av):∃ (i:Nat) (x:GAct),g.av[i]?=some a/\s.acts[i]?=some x:=by
 obtain⟨i,hi,e⟩:=List.mem_iff_getElem.1 ha;have:=h.len;exact⟨i,s.acts[i]'(by omega),by rw[<-e];exact Ld hi,Ld _⟩
theorem MaAt.ty (h:MaAt wB ms vp dO W g s) {n:Nat} (hn:SQ g n):(wB.heap.size<=n\/n=wB.h0)/\((∃ cs t,W.heap[n]?=some (.cells cs t (0,0))/\(t=145\/t=197\/t=202\/t=206\/t=72\/t=146\/t=149))\/∃ l:List (Int×GVal),W.heap[n]?=some (Z7 encZ Yf l)):=by
 rcases hn with rfl|hn|hn|⟨a,ha,hn⟩
 ·exact⟨.inl h.mb,.inl ⟨_,_,h.blk,.inl rfl⟩⟩
 ·obtain⟨b,cs,t,hc,ht⟩:=h.heap.ty hn;exact⟨by have:=h.hh;omega,.inl ⟨cs,t,hc,by rcases ht with e|e|e|e<;>simp[e]⟩⟩
 ·obtain⟨cs,hc⟩:=Vh h.row hn;exact⟨.inl (h.row.lt n hn).1,.inl ⟨cs,_,hc,by simp⟩⟩
 ·obtain⟨i,x,h1,h2⟩:=h.got ha;obtain⟨b1,b2,c1,c2⟩:=h.act i a x h1 h2
  rcases hn with rfl|rfl
  ·exact⟨.inl b1,.inl ⟨_,_,c1,by simp⟩⟩
  ·exact⟨.inl b2,.inr ⟨_,c2⟩⟩
theorem MaAt.lt (h:MaAt wB ms vp dO W g s) {n:Nat} (hn:SQ g n):n<W.heap.size:=by
 rcases (h.ty hn).2 with ⟨_,_,e,_⟩|⟨_,e⟩<;>exact Ze e
theorem MaAt.other {Q:Nat->Prop} (h:MaAt wB ms vp dO W g s) (hc:Chg Q W W') (hq:∀ n,SQ g n->¬ Q n) (hd:¬ Q g.dg) (hb:∀ n,Q n->wB.heap.size<=n\/n<wB.lo0):MaAt wB ms vp dO W' g s where
 chg:=h.chg.trans hc (fun n _ e=>(hb n e).imp id .inl)
 blk:=hc.at_ h.blk (hq _ (.inl rfl))
 mb:=h.mb
 heap:=h.heap.chg hc (fun n hn=>hq n (.inr (.inl hn)))
 len:=h.len
 row:=hc.owns h.row (fun k e=>hq k (.inr (.inr (.inl e))))
 act:=fun i a x h1 h2=>by
  obtain⟨b1,b2,c1,c2⟩:=h.act i a x h1 h2;have hm:=Ll h1;exact⟨b1,b2,hc.at_ c1 (hq _ (.inr (.inr (.inr ⟨a,hm,.inl rfl⟩)))),hc.at_ c2 (hq _ (.inr (.inr (.inr ⟨a,hm,.inr rfl⟩))))⟩
 nd1:=h.nd1
 nd2:=h.nd2
 doing:=hc.at_ h.doing hd
 db:=h.db
 hh:=h.hh
theorem MaAt.grow (h:MaAt wB ms vp dO W g s) (hg:W.grownBy W' none):MaAt wB ms vp dO W' g s:=
 h.other (Chg.grown (Q:=fun _=>False) hg (fun r e=>by cases e)) (fun _ _ e=>e) (fun e=>e) (fun _ e=>e.elim)
theorem MaAt.setM (h:MaAt wB ms vp dO W g s) (hdO:∃ es c,dO=.map es c) {s':GM} {ch:Int} (e1:s'.heap=s.heap) (e2:s'.acts=s.acts) (hc:Chg (fun n=>n=g.m) W W')
  (hb:W'.heap[g.m]?=some (.cells (Vx ms vp { g with ch:=ch } s') 145 (0,0))):MaAt wB ms vp dO W' { g with ch:=ch } s'/\Stp W g W' { g with ch:=ch }:=by
 refine⟨⟨h.chg.trans hc (fun n _ e=>.inl (by have:=h.mb;omega)),hb,h.mb,?_,by rw[e2];exact h.len,?_,fun i a x h1 h2=>?_,h.nd1,h.nd2,hc.at_ h.doing fun e=>?_,h.db,h.hh⟩,⟨hc.mono fun n _ e=>.inl e,fun n hn=>.inl hn,rfl,rfl⟩⟩
 ·rw[e1];refine h.heap.chg hc fun n hn=>?_
  obtain⟨_,cs,t,hh,ht⟩:=h.heap.ty hn;exact X4 hh h.blk (by rcases ht with e|e|e|e<;>rw[e]<;>decide)
 ·refine hc.owns h.row fun k e=>?_
  obtain⟨cs,hh⟩:=Vh h.row e;exact X4 hh h.blk (by decide)
 ·rw[e2] at h2;obtain⟨b1,b2,c1,c2⟩:=h.act i a x h1 h2;exact⟨b1,b2,hc.at_ c1 (X4 c1 h.blk (by decide)),hc.at_ c2 (fun e=>Ko h.blk c2 e.symm)⟩
 ·obtain⟨es,c,hd⟩:=hdO;have h1:=h.doing;rw[hd,e,h.blk] at h1
  cases h1
theorem MaAt.mem (h:MaAt wB ms vp dO W g s) (hdO:∃ es c,dO=.map es c) {h':HAd} {hp:GHp} (hc:Chg (HQ g.h) W W') (hh:HpAt W' wB.heap.size h' hp) (e:h'.h=g.h.h) (hn:∀ n,HQ h' n->HQ g.h n\/W.heap.size<=n):
  MaAt wB ms vp dO W' { g with h:=h' } { s with heap:=hp }/\Stp W g W' { g with h:=h' }:=by
 have ht:∀ {n m:Nat} {cs:Array Value} {t:TypeId},HQ g.h n->W.heap[m]?=some (.cells cs t (0,0))->t≠197->t≠202->t≠206->t≠72->m≠n:=fun hn hm t1 t2 t3 t4=>by
  obtain⟨_,cs,t,hh,ht⟩:=h.heap.ty hn;exact X4 hm hh (by rcases ht with e|e|e|e<;>rw[e]<;>assumption)
 refine⟨⟨h.chg.trans hc (fun n _ e=>by have:=(h.heap.ty e).1;have:=h.hh;show _\/_\/_;omega),?_,h.mb,hh,h.len,?_,fun i a x h1 h2=>?_,h.nd1,h.nd2,hc.at_ h.doing fun q=>?_,h.db,e.trans h.hh⟩,
  ⟨hc.mono fun n _ q=>.inr (.inl q),fun n hq=>?_,rfl,rfl⟩⟩
 ·unfold Vx;simp only[e];exact hc.at_ h.blk fun q=>ht q h.blk (by decide) (by decide) (by decide) (by decide) rfl
 ·refine hc.owns h.row fun k e q=>?_
  obtain⟨cs,hh⟩:=Vh h.row e;exact ht q hh (by decide) (by decide) (by decide) (by decide) rfl
 ·obtain⟨b1,b2,c1,c2⟩:=h.act i a x h1 h2;refine⟨b1,b2,hc.at_ c1 fun q=>ht q c1 (by decide) (by decide) (by decide) (by decide) rfl,hc.at_ c2 fun q=>?_⟩;obtain⟨_,cs,t,hh,_⟩:=h.heap.ty q;exact Ko hh c2 rfl
 ·obtain⟨es,c,hd⟩:=hdO;obtain⟨_,cs,t,hh,_⟩:=h.heap.ty q;have h1:=h.doing;rw[hd,hh] at h1
  cases h1
 ·rcases hq with q|q|q|q
  ·exact .inl (.inl q)
  ·exact (hn n q).imp (fun q=>.inr (.inl q)) id
  ·exact .inl (.inr (.inr (.inl q)))
  ·exact .inl (.inr (.inr (.inr q)))
theorem MaAt.setA (h:MaAt wB ms vp dO W g s) (hdO:(∃ es c,dO=.map es c)/\∀ l:List (Int×GVal),dO≠Z7 encZ Yf l) {i:Nat} {a:Nat×Nat} {x x':GAct} (h1:g.av[i]?=some a) (h2:s.acts[i]?=some x) (hc:Chg (fun n=>n=a.1\/n=a.2) W W')
  (hb1:W'.heap[a.1]?=some (.cells (Zaq x' a.2) 149 (0,0))) (hb2:W'.heap[a.2]?=some (Z7 encZ Yf x'.vars)):MaAt wB ms vp dO W' g { s with acts:=s.acts.set i x' }/\Stp W g W' g:=by
 obtain⟨b1,b2,c1,c2⟩:=h.act i a x h1 h2;have hil:=(Le h2).1;have hm:=Ll h1;have ht:∀ {m:Nat} {cs:Array Value} {t:TypeId},W.heap[m]?=some (.cells cs t (0,0))->t≠149->¬ (m=a.1\/m=a.2):=fun hm t1 q=>by
  rcases q with q|q
  ·exact X4 hm c1 t1 q
  ·exact Ko hm c2 q
 refine⟨⟨h.chg.trans hc (fun n _ e=>.inl (by omega)),?_,h.mb,?_,by rw[List.length_set];exact h.len,?_,fun j a' y g1 g2=>?_,h.nd1,h.nd2,hc.at_ h.doing fun q=>?_,h.db,h.hh⟩,
  ⟨hc.mono fun n _ q=>.inr (.inr (.inr ⟨a,hm,q⟩)),fun n hn=>.inl hn,rfl,rfl⟩⟩
 ·exact hc.at_ h.blk (ht h.blk (by decide))
 ·refine h.heap.chg hc fun n hn=>?_
  obtain⟨_,cs,t,hh,ht'⟩:=h.heap.ty hn;exact ht hh (by rcases ht' with e|e|e|e<;>rw[e]<;>decide)
 ·refine hc.owns h.row fun k e=>?_
  obtain⟨cs,hh⟩:=Vh h.row e;exact ht hh (by decide)
 ·by_cases e:i=j
  ·subst e;rw[h1] at g1
   cases g1
   rw[List.getElem?_set_self hil] at g2
   cases g2
   exact⟨b1,b2,hb1,hb2⟩
  ·rw[List.getElem?_set_ne e] at g2;obtain⟨d1,d2,e1,e2⟩:=h.act j a' y g1 g2;refine⟨d1,d2,hc.at_ e1 fun q=>?_,hc.at_ e2 fun q=>?_⟩
   ·rcases q with q|q
    ·exact nd_ne (f:=fun a=>a.1) h.nd1 h1 g1 e q.symm
    ·exact Ko e1 c2 q
   ·rcases q with q|q
    ·exact Ko c1 e2 q.symm
    ·exact nd_ne (f:=fun a=>a.2) h.nd2 h1 g1 e q.symm
 ·rcases q with q|q
  ·obtain⟨es,c,hd⟩:=hdO.1;have h3:=h.doing;rw[hd,q,c1] at h3
   cases h3
  ·have h3:=h.doing;rw[q,c2] at h3;injection h3 with h3
   exact hdO.2 _ h3.symm
end
section
open Go.RowKit Go.Shelf
variable {W:World} {base:Nat} {a:HAd} {hp:GHp}
theorem HpAt.read (h:HpAt W base a hp) {i:Nat} (hi:i<hp.length):∃ (ga ca:Nat) (o:Nat×Nat) (x:Nat×List GVal),a.v=.slice (some ⟨ga,0,none⟩) hp.length ca/\hp.length<=ca/\ca<=maxLen/\a.os[i]?=some o/\hp[i]?=some x/\
  W.cell? ⟨ga,i,none⟩=some (.pointer (some ⟨o.1,0,none⟩))/\W.cell? ⟨o.1,0,none⟩=some (.slice (some ⟨o.2,0,none⟩) x.2.length x.2.length)/\W.cell? ⟨o.1,1,none⟩=some (.int .i64 x.1):=by
 have hl:=h.len;obtain⟨A,ca,e,h1,h2,h3,h4⟩:=Zz h.row;have ho:a.os[i]?=some (a.os[i]'(by omega)):=Ld _;have hx:hp[i]?=some hp[i]:=Ld hi
 cases A with
 |none=>have:=(h3 rfl).1;omega
 |some b=>
  obtain⟨e2,-,-⟩:=h4 b rfl;rw[e2] at e;have hr:=h.row;rw[e] at hr;obtain⟨-,-,-,-,h6⟩:=Xm hr;obtain⟨-,-,c1,-⟩:=h.obj i _ _ ho hx;refine⟨b.block,ca,_,_,by rw[e,hl],by omega,h2,ho,hx,h6 i _ (by rw[List.getElem?_map,ho];rfl),(Za c1).1 0,(Za c1).1 1⟩
theorem HpAt.row0 (h:HpAt W base a hp):∃ A ca,a.v=.slice A hp.length ca/\W.cell? ⟨a.h,0,none⟩=some (.slice A hp.length ca)/\hp.length<=ca/\ca<=maxLen:=by
 obtain⟨A,ca,e,h1,h2,-,-⟩:=Zz h.row;rw[h.len] at e h1;exact⟨A,ca,e,by rw[<-e];exact (Za h.blk).1 0,h1,h2⟩
theorem Zlb (A:Option Addr) (n c k:Nat) (w:World):Calls Tryz.prog 183 #[.slice A n c,.int .i64 k] w fun e w'=>e=.returned (.bool (decide (k<n)))/\w=w':=by
 go_enter Tryz.func183,Tryz.ntmps183;go_wp2;go_ret;exact⟨by simp,rfl⟩
theorem Zly {x:GVal} (hk:x.kind≠1):Yi hp x=2:=by unfold Yi;rw[if_pos hk]
theorem Zok {x:GVal} (hk:x.kind=1) (ho:¬ x.obj<hp.length):Yi hp x=3:=by
 unfold Yi Kv;rw[if_neg (by simp[hk]),List.getElem?_eq_none (by omega)];rfl
theorem Zrz {x:GVal} {o:Nat×List GVal} (hk:x.kind=1) (ho:hp[x.obj]?=some o):Yi hp x=if x.n<o.2.length then 0 else 3:=by
 unfold Yi Kv;rw[if_neg (by simp[hk]),ho];simp only[Option.bind_some]
 by_cases e:x.n<o.2.length
 ·rw[if_pos e,if_pos (by rw[List.getElem?_eq_getElem e];rfl)]
 ·rw[if_neg e,if_neg (by rw[List.getElem?_eq_none (by omega)];simp)]
theorem Zgb (h:HpAt W base a hp) {x:GVal} (h0:Yi hp x≠0) (d:Value):Calls Tryz.prog 124 #[.pointer (some ⟨a.h,0,none⟩),Yf x,d] W fun e w'=>e=.returned (.int .u8 (Yi hp x:Nat))/\W.grownBy w' none:=by
 obtain⟨W1,hW1⟩:∃ W1:World,W1=W.alloc (.cells #[.int .u8 x.kind,.int .i64 x.obj,.int .i64 x.n] 72):=⟨_,rfl⟩
 have hg1:W.grownBy W1 none:=by rw[hW1];exact Lc _ _ _
 have hbx:W1.heap[W.heap.size]?=some (.cells #[.int .u8 x.kind,.int .i64 x.obj,.int .i64 x.n] 72 (0,0)):=by rw[hW1];exact La _ _
 have h1:=h.chg (Chg.grown (Q:=fun _=>False) hg1 (fun r e=>by cases e)) (fun _ _ e=>e);obtain⟨k,-⟩:=Za hbx;have k0:=k 0;have k1:=k 1;have k2:=k 2;have Hg:=hid hg1;unfold Yf
 by_cases hk:x.kind=1
 ·rw[show (x.kind:Int)=1 by omega] at k0
  by_cases ho:x.obj<hp.length
  ·obtain⟨ga,ca,o,xo,e1,e2,e3,e4,e5,c1,c2,c3⟩:=h1.read ho;have c0:W1.cell? ⟨a.h,0,none⟩=some (.slice (some ⟨ga,0,none⟩) hp.length ca):=by rw[<-e1];exact (Za h1.blk).1 0
   rw[Zrz hk e5] at h0 ⊢;have hn:¬ x.n<xo.2.length:=fun e=>h0 (by rw[if_pos e])
   rw[if_neg hn]
   have Hh:=hid (fun n:Nat=>show Calls Tryz.prog 183 #[.slice (some ⟨o.2,0,none⟩) xo.2.length xo.2.length,.int .i64 x.n] (W1.drewN n) fun e w'=>e=.returned (.bool false)/\W1.drewN n=w' by
    have:=Zlb (some ⟨o.2,0,none⟩) xo.2.length xo.2.length x.n (W1.drewN n)
    rwa [decide_eq_false hn] at this)
   clear h h1 hg1 hbx k h0 e1 e4 e5 hk;go_enter Tryz.func124,Tryz.ntmps124;go_upto_region 1 with (fail)
   rw[<-hW1];clear hW1;go_upto_region 3 with (fail)
   go_quiet ((go_at_call 183;exact (Hh.out _).mono fun e w' h=>⟨h.1,_,h.2.symm⟩));go_wp2;go_ret;exact⟨rfl,Zg Hg.out _⟩
  ·obtain⟨A,ca,e1,c0,e2,e3⟩:=h1.row0;rw[Zok hk ho] at h0 ⊢;clear h h1 hg1 hbx k h0 e1 hk;go_enter Tryz.func124,Tryz.ntmps124;go_upto_region 1 with (fail)
   rw[<-hW1];clear hW1;go_upto_region 3 with (fail)
   go_quiet (fail);go_wp2;go_ret;exact⟨rfl,Zg Hg.out _⟩
 ·rw[Zly hk] at h0 ⊢;have hk':¬ (x.kind:Int)=1:=by omega
  clear h h1 hg1 hbx k h0 hk;go_enter Tryz.func124,Tryz.ntmps124;go_upto_region 1 with (fail)
  rw[<-hW1];clear hW1;go_wp2;go_ret;exact⟨rfl,Hg.out⟩
theorem Zcu (h:HpAt W base a hp) {x:GVal} {o:Nat×Nat} {xo:Nat×List GVal} (hk:x.kind=1) (ho:a.os[x.obj]?=some o) (hx:hp[x.obj]?=some xo) (hn:x.n<xo.2.length) {f:Nat} {lb:Array Value} {Po:World->Prop}
  (eg:∀ args w,(callFunc f args).run Tryz.prog w=.ok (.enter f args) w) (hd:∀ W',W.grownBy W' none->Calls Tryz.prog f (#[.pointer (some ⟨o.1,0,none⟩)]++lb) W' fun e w'=>e=.returned (.tuple #[])/\Po w'):
  Calls Tryz.prog 124 #[.pointer (some ⟨a.h,0,none⟩),Yf x,.func (.func f) #[] lb] W fun e w'=>e=.returned (.int .u8 0)/\Po w':=by
 obtain⟨W1,hW1⟩:∃ W1:World,W1=W.alloc (.cells #[.int .u8 x.kind,.int .i64 x.obj,.int .i64 x.n] 72):=⟨_,rfl⟩
 have hg1:W.grownBy W1 none:=by rw[hW1];exact Lc _ _ _
 have hbx:W1.heap[W.heap.size]?=some (.cells #[.int .u8 x.kind,.int .i64 x.obj,.int .i64 x.n] 72 (0,0)):=by rw[hW1];exact La _ _
 have h1:=h.chg (Chg.grown (Q:=fun _=>False) hg1 (fun r e=>by cases e)) (fun _ _ e=>e);obtain⟨k,-⟩:=Za hbx;have k0:=k 0;have k1:=k 1;have k2:=k 2;have Hg:=hid hg1;unfold Yf;have hol:=(Le hx).1;obtain⟨ga,ca,o',xo',e1,e2,e3,e4,e5,c1,c2,c3⟩:=h1.read hol;rw[ho] at e4
 cases e4
 rw[hx] at e5
 cases e5
 rw[show (x.kind:Int)=1 by omega] at k0;have c0:W1.cell? ⟨a.h,0,none⟩=some (.slice (some ⟨ga,0,none⟩) hp.length ca):=by rw[<-e1];exact (Za h1.blk).1 0
 have Hh:=hid (fun n:Nat=>show Calls Tryz.prog 183 #[.slice (some ⟨o.2,0,none⟩) xo.2.length xo.2.length,.int .i64 x.n] (W1.drewN n) fun e w'=>e=.returned (.bool true)/\W1.drewN n=w' by
  have:=Zlb (some ⟨o.2,0,none⟩) xo.2.length xo.2.length x.n (W1.drewN n)
  rwa [decide_eq_true hn] at this)
 have Hd:=hid hd;clear h h1 hg1 hbx k e1 hk ho hx hd;go_enter Tryz.func124,Tryz.ntmps124;go_upto_region 1 with (fail)
 rw[<-hW1];clear hW1;go_upto_region 3 with (fail)
 go_quiet ((go_at_call 183;exact (Hh.out _).mono fun e w' h=>⟨h.1,_,h.2.symm⟩));go_upto_region 5 with (fail)
 go_region_law ((go_simp;go_at_fn f;refine (Hd.out _ (Zf (Zg Hg.out _))).mono ?_;rintro e w' ⟨rfl,hpo⟩;have Hpo:=hid hpo;clear hpo))
 all_goals (go_wp2_with fail;go_ret)
 all_goals exact⟨rfl,Hpo.out⟩
end
section
open Go.RowKit Go.Shelf
variable {W:World} {base:Nat} {a:HAd} {hp:GHp}
theorem Jm (w:World) (b i j k:Nat) (x y z:Value):Chg (fun n=>n=b) w (((w.setCell ⟨b,i,none⟩ x).setCell ⟨b,j,none⟩ y).setCell ⟨b,k,none⟩ z):=
 ((Chg.set (Q:=fun n=>n=b) w (p:=⟨b,i,none⟩) rfl x).trans (Chg.set (Q:=fun n=>n=b) _ (p:=⟨b,j,none⟩) rfl y) (fun _ _ e=>e)).trans (Chg.set (Q:=fun n=>n=b) _ (p:=⟨b,k,none⟩) rfl z) (fun _ _ e=>e)
theorem Chg.drew {Q:Nat->Prop} {a b:World} (h:Chg Q a b):Chg Q a b.drew:=⟨h.os,h.tape,h.output,h.size,h.block⟩
theorem Chg.drewN {Q:Nat->Prop} {a b:World} (h:Chg Q a b) (n:Nat):Chg Q a (b.drewN n):=⟨h.os,h.tape,h.output,h.size,h.block⟩
theorem Ztx {w:World} {b:Nat} {l:List GVal} {t:TypeId} (h:w.heap[b]?=some (.cells (l.flatMap Xh).toArray t (0,0))) {i:Nat} {v:GVal} (hi:l[i]?=some v):
  w.cell? ⟨b,i*3,none⟩=some (.int .u8 v.kind)/\w.cell? ⟨b,i*3+1,none⟩=some (.int .i64 v.obj)/\w.cell? ⟨b,i*3+2,none⟩=some (.int .i64 v.n):=by
 have key:∀ j (u:Value),j<3->(Xh v)[j]?=some u->w.cell? ⟨b,i*3+j,none⟩=some u:=fun j u hj hu=>by
  rw[(Za h).1,List.getElem?_toArray];exact (Qz (f:=Xh) (sz:=3) (fun _ _=>rfl) hi hj).trans hu
 exact⟨key 0 _ (by omega) rfl,key 1 _ (by omega) rfl,key 2 _ (by omega) rfl⟩
theorem Js {x:GVal} (h:Yi hp x=0):x.kind=1/\∃ (o:Nat×List GVal) (v:GVal),hp[x.obj]?=some o/\o.2[x.n]?=some v/\Kv hp x=some v:=by
 unfold Yi at h
 split at h
 ·cases h
 ·rename_i hk
  refine⟨by omega,?_⟩
  split at h
  ·rename_i hs
   unfold Kv at hs ⊢
   cases e:hp[x.obj]? with
   |none=>rw[e] at hs;cases hs
   |some o=>
    rw[e] at hs
    cases e2:o.2[x.n]? with
    |none=>simp only[Option.bind_some,e2] at hs;cases hs
    |some v=>exact⟨o,v,rfl,e2,by simp only[Option.bind_some,e2]⟩
  ·cases h
theorem Zoo {o:Nat×List GVal} {i:Nat} (ho:hp[i]?=some o):o.2.length<=Ya hp:=by
 unfold Ya;have hm:o.2.length∈hp.map fun o=>o.2.length:=List.mem_map.2 ⟨o,Ll ho,rfl⟩
 generalize (hp.map fun o=>o.2.length)=l at hm
 induction l with
 |nil=>cases hm
 |cons x l ih=>
  rw[List.sum_cons]
  rcases List.mem_cons.1 hm with rfl|hm
  ·omega
  ·have:=ih hm;omega
theorem load_1 {ob cb n i bp bv:Nat} {v:GVal} (c1:W.cell? ⟨ob,0,none⟩=some (.slice (some ⟨cb,0,none⟩) n n)) (hn:n<=16384) (k2:W.cell? ⟨bp,2,none⟩=some (.int .i64 i)) (hi:i<n)
  (v0:W.cell? ⟨cb,i*3,none⟩=some (.int .u8 v.kind)) (v1:W.cell? ⟨cb,i*3+1,none⟩=some (.int .i64 v.obj)) (v2:W.cell? ⟨cb,i*3+2,none⟩=some (.int .i64 v.n)) {z0 z1 z2:Value} (hv:W.heap[bv]?=some (.cells #[z0,z1,z2] 72 (0,0))):
  Calls Tryz.prog 234 #[.pointer (some ⟨ob,0,none⟩),.pointer (some ⟨bp,0,none⟩),.pointer (some ⟨bv,0,none⟩)] W fun e w'=>e=.returned (.tuple #[])/\w'.heap[bv]?=some (.cells #[.int .u8 v.kind,.int .i64 v.obj,.int .i64 v.n] 72 (0,0))/\Chg (fun n=>n=bv) W w':=by
 have hb0:=(Za hv).1 0;have hb1:=(Za hv).1 1;have hb2:=(Za hv).1 2;have hf0:=(Za hv).2 0;have hf1:=(Za hv).2 1;have hf2:=(Za hv).2 2;have Hv:=hid hv;clear hv;go_enter Tryz.func234,Tryz.ntmps234;go_region_law (fail)
 all_goals (go_wp2_with fail;go_end0)
 all_goals exact⟨rfl,Y8 Hv.out _ _ _,(Jm _ _ _ _ _ _ _ _).drew⟩
theorem Zho:∀ args w,(callFunc 234 args).run Tryz.prog w=.ok (.enter 234 args) w:=enters_of Tryz.func234 (by kernel_rfl) rfl
theorem Zrw (h:HpAt W base a hp) (hs:Ya hp<=16384) (x:GVal):Calls Tryz.prog 178 #[.pointer (some ⟨a.h,0,none⟩),Yf x] W fun e w'=>(∃ v,e=.returned (.tuple #[Yf v,.int .u8 (Yi hp x:Nat)])/\(Yi hp x=0->v=(Kv hp x).getD nilV))/\W.grownBy w' none:=by
 obtain⟨W2,hW2⟩:∃ W2:World,W2=(W.alloc (.cells #[.int .u8 x.kind,.int .i64 x.obj,.int .i64 x.n] 72)).alloc (.cells #[.int .u8 0,.int .i64 0,.int .i64 0] 72):=⟨_,rfl⟩
 have hg2:W.grownBy W2 none:=by rw[hW2];exact Zd (Lc W _ none) _
 have hbx:W2.heap[W.heap.size]?=some (.cells #[.int .u8 x.kind,.int .i64 x.obj,.int .i64 x.n] 72 (0,0)):=by rw[hW2];exact Zc (La W _) _
 have hbv:W2.heap[W.heap.size+1]?=some (.cells #[.int .u8 0,.int .i64 0,.int .i64 0] 72 (0,0)):=by
  rw[hW2];have:=La (W.alloc (.cells #[.int .u8 x.kind,.int .i64 x.obj,.int .i64 x.n] 72)) (.cells #[.int .u8 0,.int .i64 0,.int .i64 0] 72);simpa using this
 have h2:=h.chg (Chg.grown (Q:=fun _=>False) hg2 (fun r e=>by cases e)) (fun _ _ e=>e);obtain⟨k,-⟩:=Za hbx;have k0:=k 0;have k1:=k 1;have k2:=k 2;have Hg:=hid hg2;have Hbv:=hid hbv;unfold Yf
 by_cases h0:Yi hp x=0
 ·obtain⟨e1,xo,v,e2,e3,e4⟩:=Js h0;obtain⟨ga,ca,o,xo',g1,g2,g3,g4,g5,g6,g7,g8⟩:=h2.read (Le e2).1;rw[e2] at g5
  cases g5
  obtain⟨-,-,-,d2⟩:=h2.obj _ _ _ g4 e2;have hnl:=(Le e3).1;have hlen:=Zoo e2;have hy:=Zcu h2 e1 g4 e2 hnl (f:=234) (lb:= #[.pointer (some ⟨W.heap.size,0,none⟩),.pointer (some ⟨W.heap.size+1,0,none⟩)])
   (Po:=fun w'=>w'.heap[W.heap.size+1]?=some (.cells #[.int .u8 v.kind,.int .i64 v.obj,.int .i64 v.n] 72 (0,0))/\W.grownBy w' none) Zho (fun W' hg=>by
    have hb:=Zk hg
    obtain⟨v0,v1,v2⟩:=Ztx (Chg.at_ (Q:=fun _=>False) (Chg.grown hg (fun r e=>by cases e)) d2 (fun e=>e)) e3
    have hbv':=(hg.block _ (Ze hbv) (by simp)).trans hbv
    refine (load_1 (cur hb (Ze (h2.obj _ _ _ g4 e2).2.2.1) g7) (by omega) (cur hb (Ze hbx) k2) hnl v0 v1 v2 hbv').mono fun e w' he=>⟨he.1,he.2.1,?_⟩
    exact Chg.after (Zb hg2 hg) he.2.2 (fun n hn q=>by omega))
  unfold Yf at hy;rw[h0];have He:=hid e4;clear h h2 hbx hbv hg2 k e1 e2 e3 e4 g1 g2 g3 g4 g6 g7 g8 d2 hnl hlen h0;go_enter Tryz.func178,Tryz.ntmps178;go_upto_region 1 with (fail)
  rw[<-hW2];clear hW2;go_upto_region 2 with (go_at_call 124;refine hy.mono ?_;rintro e w' ⟨rfl,hb3,hg3⟩)
  clear k0 k1 k2 hy;have v0:w'.cell? ⟨W.heap.size+1,0,none⟩=some (.int .u8 v.kind):=(Za hb3).1 0;have v1:w'.cell? ⟨W.heap.size+1,1,none⟩=some (.int .i64 v.obj):=(Za hb3).1 1;have v2:w'.cell? ⟨W.heap.size+1,2,none⟩=some (.int .i64 v.n):=(Za hb3).1 2;have f0:=(Za hb3).2 0;have f1:=(Za hb3).2 1;have f2:=(Za hb3).2 2;have Hb3:=hid hb3;have Hg3:=hid hg3;clear hb3 hg3;go_wp2;obtain⟨wf,hwf⟩:∃ wf:World,wf=((w'.setCell ⟨W.heap.size+1,0,none⟩ (.int .u8 v.kind)).setCell ⟨W.heap.size+1,1,none⟩ (.int .i64 v.obj)).setCell ⟨W.heap.size+1,2,none⟩ (.int .i64 v.n):=⟨_,rfl⟩
  rw[<-hwf];have hbf:wf.heap[W.heap.size+1]?=some (.cells #[.int .u8 v.kind,.int .i64 v.obj,.int .i64 v.n] 72 (0,0)):=by rw[hwf];exact Y8 Hb3.out _ _ _
  have u0:wf.cell? ⟨W.heap.size+1,0,none⟩=some (.int .u8 v.kind):=(Za hbf).1 0;have u1:wf.cell? ⟨W.heap.size+1,1,none⟩=some (.int .i64 v.obj):=(Za hbf).1 1;have u2:wf.cell? ⟨W.heap.size+1,2,none⟩=some (.int .i64 v.n):=(Za hbf).1 2;refine bodyPost_ret (v:=.tuple #[Yf v,.int .u8 0]) (by simp[results,Tryz.results178,go_sem,u0,u1,u2,Yf]) rfl ⟨⟨v,rfl,fun _=>by rw[He.out];rfl⟩,?_⟩;rw[hwf];exact Chg.after Hg3.out (Jm w' _ _ _ _ _ _ _) (fun n hn q=>by omega)
 ·have hy:=Zgb h2 h0 (.func (.func 234) #[] #[.pointer (some ⟨W.heap.size,0,none⟩),.pointer (some ⟨W.heap.size+1,0,none⟩)]);unfold Yf at hy;have H0:=hid h0;clear h h2 hbx hbv hg2 k h0;go_enter Tryz.func178,Tryz.ntmps178;go_upto_region 1 with (fail)
  rw[<-hW2];clear hW2;go_upto_region 2 with (go_at_call 124;refine hy.mono ?_;rintro e w' ⟨rfl,hg3⟩)
  clear k0 k1 k2 hy;have hb3:=(hg3.block _ (Ze Hbv.out) (by simp)).trans Hbv.out;have v0:w'.cell? ⟨W.heap.size+1,0,none⟩=some (.int .u8 0):=(Za hb3).1 0;have v1:w'.cell? ⟨W.heap.size+1,1,none⟩=some (.int .i64 0):=(Za hb3).1 1;have v2:w'.cell? ⟨W.heap.size+1,2,none⟩=some (.int .i64 0):=(Za hb3).1 2;have f0:=(Za hb3).2 0;have f1:=(Za hb3).2 1;have f2:=(Za hb3).2 2;have Hb3:=hid hb3;have Hg3:=hid (Zb Hg.out hg3);clear hb3 hg3;go_wp2;obtain⟨wf,hwf⟩:∃ wf:World,wf=((w'.setCell ⟨W.heap.size+1,0,none⟩ (.int .u8 0)).setCell ⟨W.heap.size+1,1,none⟩ (.int .i64 0)).setCell ⟨W.heap.size+1,2,none⟩ (.int .i64 0):=⟨_,rfl⟩
  rw[<-hwf];have hbf:wf.heap[W.heap.size+1]?=some (.cells #[.int .u8 0,.int .i64 0,.int .i64 0] 72 (0,0)):=by rw[hwf];exact Y8 Hb3.out _ _ _
  have u0:wf.cell? ⟨W.heap.size+1,0,none⟩=some (.int .u8 0):=(Za hbf).1 0;have u1:wf.cell? ⟨W.heap.size+1,1,none⟩=some (.int .i64 0):=(Za hbf).1 1;have u2:wf.cell? ⟨W.heap.size+1,2,none⟩=some (.int .i64 0):=(Za hbf).1 2;refine bodyPost_ret (v:=.tuple #[Yf nilV,.int .u8 (Yi hp x:Nat)]) (by simp[results,Tryz.results178,go_sem,u0,u1,u2,Yf,nilV]) rfl ⟨⟨nilV,rfl,fun e=>absurd e H0.out⟩,?_⟩;rw[hwf];exact Chg.after Hg3.out (Jm w' _ _ _ _ _ _ _) (fun n hn q=>by omega)
theorem Zlv (v:GVal):∀ (l:List GVal) (i:Nat),i<l.length->(((l.flatMap Xh).set (i*3) (.int .u8 v.kind)).set (i*3+1) (.int .i64 v.obj)).set (i*3+2) (.int .i64 v.n)=(l.set i v).flatMap Xh
 |[],i,h=>by simp at h
 |x::l,0,_=>by simp[Xh]
 |x::l,i+1,h=>by
  have ih:=Zlv v l i (by simpa using h);rw[show (i+1)*3=i*3+3 by omega];simp only[List.flatMap_cons,Xh,List.cons_append,List.nil_append,Li,Li] at ih ⊢;rw[<-ih]
theorem store_1 {ob cb i bp bv:Nat} {l:List GVal} {v:GVal} (c1:W.cell? ⟨ob,0,none⟩=some (.slice (some ⟨cb,0,none⟩) l.length l.length)) (hn:l.length<=16384) (k2:W.cell? ⟨bp,2,none⟩=some (.int .i64 i)) (hi:i<l.length)
  (v0:W.cell? ⟨bv,0,none⟩=some (.int .u8 v.kind)) (v1:W.cell? ⟨bv,1,none⟩=some (.int .i64 v.obj)) (v2:W.cell? ⟨bv,2,none⟩=some (.int .i64 v.n)) (hc:W.heap[cb]?=some (.cells (l.flatMap Xh).toArray 72 (0,0))):
  Calls Tryz.prog 235 #[.pointer (some ⟨ob,0,none⟩),.pointer (some ⟨bv,0,none⟩),.pointer (some ⟨bp,0,none⟩)] W fun e w'=>e=.returned (.tuple #[])/\w'.heap[cb]?=some (.cells ((l.set i v).flatMap Xh).toArray 72 (0,0))/\Chg (fun n=>n=cb) W w':=by
 obtain⟨u,hu⟩:∃ u,l[i]?=some u:=⟨_,Ld hi⟩
 obtain⟨b0,b1,b2⟩:=Ztx hc hu;have f0:=(Za hc).2 (i*3);have f1:=(Za hc).2 (i*3+1);have f2:=(Za hc).2 (i*3+2);have Hc:=hid hc;have Hi:=hid (Zlv v l i hi);clear hc hu;go_enter Tryz.func235,Tryz.ntmps235;go_region_law (fail)
 all_goals (go_wp2_with fail;go_end0)
 all_goals
  refine⟨rfl,?_,(Jm _ _ _ _ _ _ _ _).drew⟩;have:=Zs (Zs (Zs Hc.out (i*3) (.int .u8 v.kind)) (i*3+1) (.int .i64 v.obj)) (i*3+2) (.int .i64 v.n);rw[Lg,Lg,Lg,Hi.out] at this;exact this
theorem Zfv:∀ args w,(callFunc 235 args).run Tryz.prog w=.ok (.enter 235 args) w:=enters_of Tryz.func235 (by kernel_rfl) rfl
theorem Zol (h:HpAt W base a hp) (hs:Ya hp<=16384) (x v:GVal):Calls Tryz.prog 179 #[.pointer (some ⟨a.h,0,none⟩),Yf x,Yf v] W fun e w'=>e=.returned (.int .u8 (Yi hp x:Nat))/\
  HpAt w' base a (if Yi hp x=0 then Uf hp x v else hp)/\Chg (HQ a) W w':=by
 obtain⟨W2,hW2⟩:∃ W2:World,W2=(W.alloc (.cells #[.int .u8 x.kind,.int .i64 x.obj,.int .i64 x.n] 72)).alloc (.cells #[.int .u8 v.kind,.int .i64 v.obj,.int .i64 v.n] 72):=⟨_,rfl⟩
 have hg2:W.grownBy W2 none:=by rw[hW2];exact Zd (Lc W _ none) _
 have hbx:W2.heap[W.heap.size]?=some (.cells #[.int .u8 x.kind,.int .i64 x.obj,.int .i64 x.n] 72 (0,0)):=by rw[hW2];exact Zc (La W _) _
 have hbv:W2.heap[W.heap.size+1]?=some (.cells #[.int .u8 v.kind,.int .i64 v.obj,.int .i64 v.n] 72 (0,0)):=by
  rw[hW2];have:=La (W.alloc (.cells #[.int .u8 x.kind,.int .i64 x.obj,.int .i64 x.n] 72)) (.cells #[.int .u8 v.kind,.int .i64 v.obj,.int .i64 v.n] 72);simpa using this
 have h2:=h.chg (Chg.grown (Q:=fun _=>False) hg2 (fun r e=>by cases e)) (fun _ _ e=>e);have k0:=(Za hbx).1 0;have k1:=(Za hbx).1 1;have k2:=(Za hbx).1 2;have Hh:=hid h2;have Hg:=hid hg2;unfold Yf
 by_cases h0:Yi hp x=0
 ·obtain⟨e1,xo,u,e2,e3,e4⟩:=Js h0;obtain⟨ga,ca,o,xo',g1,g2,g3,g4,g5,g6,g7,g8⟩:=h2.read (Le e2).1;rw[e2] at g5
  cases g5
  obtain⟨d0,d0',d1,d2⟩:=h2.obj _ _ _ g4 e2;have hnl:=(Le e3).1;have hlen:=Zoo e2;have hst:Uf hp x v=hp.set x.obj (xo.1,xo.2.set x.n v):=by unfold Uf;rw[e2]
  have hq:HQ a o.2:=.inr (.inr ⟨o,Ll g4,.inr rfl⟩);have hy:=Zcu h2 e1 g4 e2 hnl (f:=235) (lb:= #[.pointer (some ⟨W.heap.size+1,0,none⟩),.pointer (some ⟨W.heap.size,0,none⟩)])
   (Po:=fun w'=>HpAt w' base a (Uf hp x v)/\Chg (HQ a) W w') Zfv (fun W' hg=>by
    have hb:=Zk hg
    have hc:=Chg.grown (Q:=fun _=>False) hg (fun r e=>by cases e)
    have h3:=h2.chg hc (fun _ _ e=>e)
    obtain⟨v0,v1,v2⟩:W'.cell? ⟨W.heap.size+1,0,none⟩=some (.int .u8 v.kind)/\W'.cell? ⟨W.heap.size+1,1,none⟩=some (.int .i64 v.obj)/\W'.cell? ⟨W.heap.size+1,2,none⟩=some (.int .i64 v.n):=
     ⟨(Za (hc.at_ hbv (fun e=>e))).1 0,(Za (hc.at_ hbv (fun e=>e))).1 1,(Za (hc.at_ hbv (fun e=>e))).1 2⟩
    refine (store_1 (cur hb (Ze d1) g7) (by omega) (cur hb (Ze hbx) k2) hnl v0 v1 v2 (hc.at_ d2 (fun e=>e))).mono fun e w' he=>⟨he.1,?_,?_⟩
    ·rw[hst]
     exact h3.store g4 e2 (by simp) he.2.2 he.2.1
    ·exact (Chg.grown (Q:=HQ a) (Zb hg2 hg) (fun r e=>by cases e)).trans he.2.2 (fun n hn q=>by rw[q];exact hq))
  unfold Yf at hy;rw[h0];clear h h2 hbx hbv hg2 e1 e2 e3 e4 g1 g2 g3 g4 g6 g7 g8 d0 d0' d1 d2 hnl hlen h0 hq hst;go_enter Tryz.func179,Tryz.ntmps179;go_upto_region 1 with (fail)
  rw[<-hW2];clear hW2;go_wp2_with (go_at_call 124;refine hy.mono ?_;rintro e w' ⟨rfl,hp3,hg3⟩);go_ret;exact⟨rfl,by first|exact hp3|(rw[if_pos rfl];exact hp3),hg3⟩
 ·have hy:=Zgb h2 h0 (.func (.func 235) #[] #[.pointer (some ⟨W.heap.size+1,0,none⟩),.pointer (some ⟨W.heap.size,0,none⟩)]);unfold Yf at hy;rw[if_neg h0];clear h h2 hbx hbv hg2 h0;go_enter Tryz.func179,Tryz.ntmps179;go_upto_region 1 with (fail)
  rw[<-hW2];clear hW2;go_wp2_with (go_at_call 124;refine hy.mono ?_;rintro e w' ⟨rfl,hg3⟩);go_ret;exact⟨rfl,Hh.out.chg (Chg.grown (Q:=fun _=>False) hg3 (fun r e=>by cases e)) (fun _ _ e=>e),Chg.grown (Zb Hg.out hg3) (fun r e=>by cases e)⟩
end
section
open Go.RowKit Go.Shelf
variable {W:World} {base:Nat} {a:HAd} {hp:GHp}
theorem step_1 {ob cb n i bk bp bi:Nat} {k:Int} {z:Value} (hk:0<=k) (c1:W.cell? ⟨ob,0,none⟩=some (.slice (some ⟨cb,0,none⟩) n n)) (hn:n<=16384) (k2:W.cell? ⟨bp,2,none⟩=some (.int .i64 i)) (hi:i<n)
  (k0:W.cell? ⟨bk,0,none⟩=some (.int .i64 k)) (hc:W.heap[bi]?=some (.cells #[z] 4 (0,0))):
  Calls Tryz.prog 233 #[.pointer (some ⟨ob,0,none⟩),.pointer (some ⟨bk,0,none⟩),.pointer (some ⟨bp,0,none⟩),.pointer (some ⟨bi,0,none⟩)] W fun e w'=>e=.returned (.tuple #[])/\w'.heap[bi]?=some (.cells #[.bool (decide (-(i:Int)<=k/\k<(n:Int)-(i:Int)))] 4 (0,0))/\Chg (fun n=>n=bi) W w':=by
 have b0:=(Za hc).1 0;have f0:=(Za hc).2 0;have Hc:=hid hc;have hw1:IntKind.i64.wrap (-(i:Int))= -(i:Int):=by rw[IntKind.wrap_i64];omega
 have hw2:IntKind.i64.wrap ((n:Int)-(i:Int))=(n:Int)-(i:Int):=by rw[IntKind.wrap_i64];omega
 clear hc;have h1: -(i:Int)<=k:=by omega
 by_cases h2:k<(n:Int)-(i:Int)
 ·rw[decide_eq_true (And.intro h1 h2)];go_enter Tryz.func233,Tryz.ntmps233;go_region_law (fail)
  all_goals (go_wp2_with fail;go_end0)
  all_goals exact⟨rfl,Zs Hc.out 0 _,(Chg.set (Q:=fun n=>n=bi) W (p:=⟨bi,0,none⟩) rfl _).drew⟩
 ·rw[decide_eq_false (fun e=>h2 e.2)];go_enter Tryz.func233,Tryz.ntmps233;go_region_law (fail)
  all_goals (go_wp2_with fail;go_end0)
  all_goals exact⟨rfl,Zs Hc.out 0 _,(Chg.set (Q:=fun n=>n=bi) W (p:=⟨bi,0,none⟩) rfl _).drew⟩
theorem Zhs:∀ args w,(callFunc 233 args).run Tryz.prog w=.ok (.enter 233 args) w:=enters_of Tryz.func233 (by kernel_rfl) rfl
end

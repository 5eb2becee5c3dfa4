/- How what package sound knows of a function lies in memory. No condition. -/
import Derived.Test.YtlcogjllnbfneaaGreatECfgOf
import Derived.Test.YtlcogjllnbfneaaGreatEDom
import Derived.Test.YtlcogjllnbfneaaGreatECfu
set_option maxHeartbeats 4000000
set_option maxRecDepth 100000
set_option linter.all false
namespace Go.Proofs.YtlcogjllnbfneaaGreat
open Lib(hid)
section
open Go.RowKit Go.Shelf
structure BodyAt (w:World) (B b:Nat) (f:GFun) (A1:Option Addr) (d1:Nat) (A2:Option Addr) (d2 S S2 O M:Nat) (order:List Nat) (o:Out):Prop where
 lt:b<B
 blk:w.heap[b]?=some (.cells #[.string ⟨f.name.toArray⟩,.slice A1 f.params.length d1,.slice A2 f.bk9.length d2,.slice (some ⟨S,0,none⟩) f.bk9.length f.bk9.length,.slice (some ⟨S2,0,none⟩) f.bk9.length f.bk9.length,.slice (some ⟨O,0,none⟩) f.bk9.length f.bk9.length,.map (some M)] 149 (0,0))
 fn:FunAt w B f (.slice A1 f.params.length d1) (.slice A2 f.bk9.length d2)
 succ:GraphAt w B (.slice (some ⟨S,0,none⟩) f.bk9.length f.bk9.length) (Zv f.bk9)
 pred:GraphAt w B (.slice (some ⟨S2,0,none⟩) f.bk9.length f.bk9.length) (Xx (Zv f.bk9))
 tree:TreeAt w B O (Zv f.bk9) order o
 defs:w.heap[M]?=some (Z7 encS Qe (Kt f))
 mlt:M<B
theorem BodyAt.below {w w':World} {B b:Nat} {f:GFun} {A1:Option Addr} {d1:Nat} {A2:Option Addr} {d2 S S2 O M:Nat} {order:List Nat} {o:Out} (h:BodyAt w B b f A1 d1 A2 d2 S S2 O M order o) {B':Nat} (hb:Below B' w w') (hB:B<=B'):
  BodyAt w' B b f A1 d1 A2 d2 S S2 O M order o where
 lt:=h.lt
 blk:=(hb.block b (Lm h.lt hB)).trans h.blk
 fn:=h.fn.below hb hB
 succ:=h.succ.below rowR.keeps hb hB
 pred:=h.pred.below rowR.keeps hb hB
 tree:=h.tree.below hb hB
 defs:=(hb.block M (Lm h.mlt hB)).trans h.defs
 mlt:=h.mlt
theorem BodyAt.more {w:World} {B b:Nat} {f:GFun} {A1:Option Addr} {d1:Nat} {A2:Option Addr} {d2 S S2 O M:Nat} {order:List Nat} {o:Out} (h:BodyAt w B b f A1 d1 A2 d2 S S2 O M order o) {B':Nat} (hB:B<=B'):
  BodyAt w B' b f A1 d1 A2 d2 S S2 O M order o where
 lt:=Lm h.lt hB
 blk:=h.blk
 fn:=h.fn.more hB
 succ:=h.succ.more rowR.keeps hB
 pred:=h.pred.more rowR.keeps hB
 tree:=h.tree.more hB
 defs:=h.defs
 mlt:=Lm h.mlt hB
def Body (w:World) (B b:Nat) (f:GFun):Prop:=∃ A1 d1 A2 d2 S S2 O M order o,BodyAt w B b f A1 d1 A2 d2 S S2 O M order o
theorem Body.below {w w':World} {B b:Nat} {f:GFun} (h:Body w B b f) {B':Nat} (hb:Below B' w w') (hB:B<=B'):Body w' B b f:=by
 obtain⟨A1,d1,A2,d2,S,S2,O,M,order,o,h⟩:=h;exact⟨A1,d1,A2,d2,S,S2,O,M,order,o,h.below hb hB⟩
theorem Body.more {w:World} {B b:Nat} {f:GFun} (h:Body w B b f) {B':Nat} (hB:B<=B'):Body w B' b f:=by
 obtain⟨A1,d1,A2,d2,S,S2,O,M,order,o,h⟩:=h;exact⟨A1,d1,A2,d2,S,S2,O,M,order,o,h.more hB⟩
end
section
open Go.RowKit Go.Shelf
def Yy (f:GFun) (s:Str):Int×Nat:=(Z6 (Kt f) s).getD (0,0)
noncomputable def Xk (f:GFun) (s:Str) (k:Nat):Bool:=s == Q2||decide ((Yy f s).1<0)||Zar (Zv f.bk9) (Yy f s).1.toNat k
noncomputable def atB (f:GFun) (s:Str) (k i:Nat):Bool:=if (Yy f s).1=k then decide ((Yy f s).2<i) else Xk f s k
theorem Zih (f:GFun) (b B:Nat) (w:World) (s:Str) (k:Nat) (hk:k<f.bk9.length) (hn:f.bk9.length<=65536) (h:Body w B b f) (hB:B<=w.heap.size) (hd1: -1<=(Yy f s).1) (hd:(Yy f s).1<f.bk9.length) (hd2:(Yy f s).2<=1099511627776) (hs:s.length<=9223372036854775807):
  Calls Tryz.prog 146 #[.pointer (some ⟨b,0,none⟩),.string ⟨s.toArray⟩,.int .i64 k] w fun e w'=>e=.returned (.bool (Xk f s k))/\w.grownBy w' none:=by
 obtain⟨A1,d1,A2,d2,S,S2,O,M,order,o,h⟩:=h;obtain⟨j1,_⟩:=Za h.blk;have e6:w.cell? ⟨b,6,none⟩=some (.map (some M)):=j1 6;have e5:w.cell? ⟨b,5,none⟩=some (.slice (some ⟨O,0,none⟩) f.bk9.length f.bk9.length):=j1 5;have hrun:=V4 (P:=Tryz.prog) (Zbr Tryz.underlying9) Tryz.underlying147 h.defs s (z:=.agg #[.int .i64 0,.int .i64 0]) (by kernel_rfl);replace hrun:=hrun.trans (congrArg (fun v=>Result.ok v w) (show _=Qe (Yy f s) by unfold Yy Qe;cases Z6 (Kt f) s<;>rfl));simp only[encS,Qe] at hrun;have hlt:=h.lt;have hltO:=h.tree.lt;have HT:=hid h.tree;have h1:=La w (.cells #[.int .i64 (Yy f s).1,.int .i64 (Yy f s).2] 151);clear j1 h;have hsn:Hid (Xk f s k=(s == Q2||decide ((Yy f s).1<0)||Zar (Zv f.bk9) (Yy f s).1.toNat k)):=rfl;have hdom:∀ W:World,w.grownBy W none->∀ a:Nat,a<f.bk9.length->Calls Tryz.prog 190 #[.slice (some ⟨O,0,none⟩) f.bk9.length f.bk9.length,.int .i64 a,.int .i64 k] W fun e w'=>e=.returned (.bool (Zar (Zv f.bk9) a k))/\W=w':=
  fun W hg a ha=>dom_any a k _ O B _ order o W (Zr _).symm hn ha hk (HT.out.below (Zk hg) hB)
 obtain⟨D1,hD1⟩:∃ D:Int,D=(Yy f s).1:=⟨_,rfl⟩
 obtain⟨D2,hD2⟩:∃ D:Nat,D=(Yy f s).2:=⟨_,rfl⟩
 rw[<-hD1,<-hD2] at hrun h1;rw[<-hD1] at hd1 hd hsn;rw[<-hD2] at hd2;obtain⟨p1,_⟩:=Za h1;have c0:(w.alloc (.cells #[.int .i64 D1,.int .i64 D2] 151)).cell? ⟨w.heap.size,0,none⟩=some (.int .i64 D1):=p1 0;clear hD1 hD2 HT h1 p1;have hg:=Lc w (.cells #[.int .i64 D1,.int .i64 D2] 151) none;have hbw:b≠w.heap.size:=by omega
 have hbl:b<w.heap.size:=by omega
 have HG:=hid hg;clear hg
 cases q1:s == [110,117,108,108] with
 |true=>
  have HR:=hid (show Xk f s k=true by rw[hsn.out,Q2,q1];rfl);clear hsn hdom hd hd1 hd2 e5;go_enter Tryz.func146,Tryz.ntmps146;go_upto_region 2 with (fail)
  clear hrun e6;go_quiet (fail);go_wp2;go_ret;exact⟨by rw[HR.out];rfl,Zg HG.out _⟩
 |false=>
  by_cases q2:D1<0
  ·have HR:=hid (show Xk f s k=true by rw[hsn.out];simp[q2]);have q2':decide (D1<0)=true:=by simp[q2]
   clear hsn hdom hd hd1 hd2 e5 q2;go_enter Tryz.func146,Tryz.ntmps146;go_upto_region 2 with (fail)
   clear hrun e6;go_quiet (fail);go_wp2;go_ret;exact⟨by rw[HR.out];rfl,Zg HG.out _⟩
  ·obtain⟨a,rfl⟩:∃ a:Nat,D1=a:=⟨D1.toNat,by omega⟩
   have HR:=hid (show Xk f s k=Zar (Zv f.bk9) a k by rw[hsn.out,Q2,q1];simp[q2]);have q2':decide ((a:Int)<0)=false:=by simp
   have e5':(w.alloc (.cells #[.int .i64 (a:Int),.int .i64 D2] 151)).cell? ⟨b,5,none⟩=some (.slice (some ⟨O,0,none⟩) f.bk9.length f.bk9.length):=(World.cell?_alloc_lt w _ _ hbl).trans e5;have hc:=fun n:Nat=>hdom _ (Zg HG.out n) a (by omega)
   clear hsn hdom hd1 q2 e5;go_enter Tryz.func146,Tryz.ntmps146;go_upto_region 2 with (fail)
   clear hrun e6;go_quiet ((go_at_call 190;exact (hc _).mono fun e w' h=>⟨h.1,_,h.2.symm⟩));go_wp2;go_ret;exact⟨by rw[HR.out];rfl,Zg HG.out _⟩
theorem at_any (f:GFun) (b B:Nat) (w:World) (s:Str) (k i:Nat) (hk:k<f.bk9.length) (hn:f.bk9.length<=65536) (hi:i<=1099511627776) (h:Body w B b f) (hB:B<=w.heap.size) (hd1: -1<=(Yy f s).1) (hd:(Yy f s).1<f.bk9.length) (hd2:(Yy f s).2<=1099511627776) (hs:s.length<=9223372036854775807):
  Calls Tryz.prog 145 #[.pointer (some ⟨b,0,none⟩),.string ⟨s.toArray⟩,.int .i64 k,.int .i64 i] w fun e w'=>e=.returned (.bool (atB f s k i))/\w.grownBy w' none:=by
 have hb:=h;obtain⟨A1,d1,A2,d2,S,S2,O,M,order,o,h⟩:=h;obtain⟨j1,_⟩:=Za h.blk;have e6:w.cell? ⟨b,6,none⟩=some (.map (some M)):=j1 6;have hrun:=V4 (P:=Tryz.prog) (Zbr Tryz.underlying9) Tryz.underlying147 h.defs s (z:=.agg #[.int .i64 0,.int .i64 0]) (by kernel_rfl);replace hrun:=hrun.trans (congrArg (fun v=>Result.ok v w) (show _=Qe (Yy f s) by unfold Yy Qe;cases Z6 (Kt f) s<;>rfl));simp only[encS,Qe] at hrun;have hlt:=h.lt;have hend:∀ W:World,w.grownBy W none->Calls Tryz.prog 146 #[.pointer (some ⟨b,0,none⟩),.string ⟨s.toArray⟩,.int .i64 k] W fun e w'=>e=.returned (.bool (Xk f s k))/\W.grownBy w' none:=
  fun W hg=>Zih f b B W s k hk hn (hb.below (Zk hg) hB) (Nat.le_trans hB hg.size) hd1 hd hd2 hs
 have hat:Hid (atB f s k i=if (Yy f s).1=k then decide ((Yy f s).2<i) else Xk f s k):=rfl;clear j1 h hb;obtain⟨D1,hD1⟩:∃ D:Int,D=(Yy f s).1:=⟨_,rfl⟩
 obtain⟨D2,hD2⟩:∃ D:Nat,D=(Yy f s).2:=⟨_,rfl⟩
 rw[<-hD1,<-hD2] at hrun hat;rw[<-hD1] at hd1 hd;rw[<-hD2] at hd2;clear hD1 hD2;have HG:=hid (Lc w (.cells #[.int .i64 D1,.int .i64 D2] 151) none);have hc:=hend _ HG.out;have hbw:b≠w.heap.size:=by omega
 have hbl:b<w.heap.size:=by omega
 clear hend
 by_cases q1:D1=k
 ·subst q1;have HR:=hid (show atB f s k i=decide (D2<i) by rw[hat.out];simp);clear hat hc;go_enter Tryz.func145,Tryz.ntmps145;go_wp2;go_ret;exact⟨by rw[HR.out];simp,HG.out⟩
 ·have HR:=hid (show atB f s k i=Xk f s k by rw[hat.out];simp[q1]);have q1':(D1 == (k:Int))=false:=beq_eq_false_iff_ne.2 q1;clear hat;go_enter Tryz.func145,Tryz.ntmps145;go_upto_region 4 with (fail)
  repeat go_step
  refine hc.mono ?_;rintro e w2 ⟨rfl,hg2⟩;go_wp2;go_ret;exact⟨by rw[HR.out];rfl,Zb HG.out hg2⟩
end
def Ziq (f:GFun):Str:=Yo f.bk9 0
def Uq (f:GFun) (_ _:Nat) (x:GIns):Bool:= !(x.op == 6)&&x.lb9.contains (Ziq f)
def Zni (f:GFun) (k:Nat):List Str:=((Xx (Zv f.bk9))[k]?.getD []).map (Yo f.bk9)
def Zcz (f:GFun) (k _:Nat) (x:GIns):Bool:=x.op == 6&& !(decide (Qf (Zni f k)=Qf x.lb9))
noncomputable def Zba (f:GFun) (x:GIns):Bool:=(List.range x.args.length).any fun j=> !(Xk f (x.args[j]?.getD []) ((Yd f.bk9 (x.lb9[j]?.getD [])).getD 0))
noncomputable def X6 (f:GFun) (k i:Nat) (x:GIns):Bool:=if x.op=6 then Zba f x else (Kj x).any fun s=> !(atB f s k i)
def V7 (f:GFun) (q:Nat->Nat->GIns->Bool):Option (Nat×Nat):=Zq f.bk9 fun b y=>Zq y.code fun i x=>if q b i x then some (b,i) else none
theorem Ja {f:GFun} {q:Nat->Nat->GIns->Bool} (h:∀ b,b<f.bk9.length->∀ y,f.bk9[b]?=some y->Zq y.code (fun i x=>if q b i x then some (b,i) else none)=none):V7 f q=none:=Zx h
theorem K9 {b:Nat} {y:GBlk} {q:Nat->Nat->GIns->Bool} (h:∀ i,i<y.code.length->∀ x,y.code[i]?=some x->q b i x=false):Zq y.code (fun i x=>if q b i x then some (b,i) else none)=none:=
 Zx fun i hi x hx=>by simp[h i hi x hx]
theorem Zoc {f:GFun} {q:Nat->Nat->GIns->Bool} {b i:Nat} {y:GBlk} {x:GIns} (h:∀ j,j<b->∀ y,f.bk9[j]?=some y->Zq y.code (fun i x=>if q j i x then some (j,i) else none)=none) (hy:f.bk9[b]?=some y) (hx:y.code[i]?=some x)
  (h2:∀ j,j<i->∀ z,y.code[j]?=some z->q b j z=false) (hq:q b i x=true):V7 f q=some (b,i):=
 Zo h hy (Zo (fun j hj z hz=>by simp[h2 j hj z hz]) hx (by simp[hq]))
noncomputable def J1 (g:Gph) (k:Nat):Bool:=by classical exact decide (Path g 0 k)
noncomputable def Xw (f:GFun):Option (Nat×Nat):=(((List.range f.bk9.length).find? fun k=> !(J1 (Zv f.bk9) k))).map fun k=>(k,0)
noncomputable def U3 (f:GFun):Nat->Option (Nat×Nat)
 |17=>V7 f (Uq f)
 |18=>Xw f
 |19=>V7 f (Zcz f)
 |20=>V7 f (X6 f)
 |_=>none
def Zjt (f:GFun):Nat:=f.params.length+((f.bk9.flatMap (·.code)).filter fun x=> !x.dst.isEmpty).length
def V0 (x:GIns):Int:=if x.op=1\/x.op=2 then x.n else 0
def fldF (f:GFun):Int:=((f.bk9.flatMap (·.code)).map V0).sum
def Kc (p:GProg):Nat:=(p.map Zjt).sum
def Jj (p:GProg):Int:=p.length+(p.map fldF).sum
noncomputable def Jn (p:GProg) (r:Nat):Option GPt:=Zq p fun i f=>(U3 f r).map fun x=>(i,x.1,x.2)
noncomputable def Y5 (p:GProg):Nat×GPt:=
 if (Yc p).1≠0 then Yc p
 else match Zq [17,18,19,20] fun _ r=>(Jn p r).map fun pt=>(r,pt) with
  |some r=>r
  |none=>if 65536<Kc p\/65536<Jj p then (21,(0,0,0)) else (0,(0,0,0))
structure FOk (f:GFun):Prop where
 of:OfOk f.bk9
 ne:f.bk9≠[]
 code:∀ y∈f.bk9,y.code.length<=4096
 phi:∀ y∈f.bk9,∀ x∈y.code,x.op=6->x.args.length=x.lb9.length
 lab:∀ y∈f.bk9,∀ x∈y.code,∀ s∈x.lb9,∃ k,Yd f.bk9 s=some k
theorem Zjw (bs:List GBlk) (s:Str):idxOf (fun b=>b.label == s) bs=match Yd bs s with|some i=>(i:Int)|none=> -1:=by
 have hlab:∀ (j:Nat) (y:GBlk),bs[j]?=some y->Yo bs j=y.label:=fun j y hy=>by simp[Yo,hy]
 cases h:Yd bs s with
 |some i=>
  have hi:=V9 h;have hl:=Zax h;have hy:bs[i]?=some bs[i]:=Ld hi;refine Qi (fun j hj y hyj=>?_) hy ?_
  ·rw[Yd,List.find?_range_eq_some] at h;have:=h.2.2 j hj;rw[hlab j y hyj] at this;simp only[Bool.not_eq_true',beq_eq_false_iff_ne,ne_eq] at this ⊢;exact fun e=>this e.symm
  ·rw[hlab i _ hy] at hl;simp[hl]
 |none=>
  refine Ug fun j hj y hyj=>?_
  unfold Yd at h;rw[List.find?_eq_none] at h;have:=h j (by simpa using hj);rw[hlab j y hyj] at this;simp only[beq_iff_eq] at this;simp only[beq_eq_false_iff_ne,ne_eq];exact fun e=>this e.symm
def Zek (n:Nat) (p:Int×Nat):Prop:= -1<=p.1/\p.1<n/\p.2<=4096
theorem Zpw {n:Nat} {m:Defs} {s:Str} {p:Int×Nat} (hm:∀ s q,Z6 m s=some q->Zek n q) (hp:Zek n p):∀ s' q,Z6 (Yz m s p) s'=some q->Zek n q:=by
 intro s' q h;rw[Xj] at h
 split at h
 ·cases h;exact hp
 ·exact hm _ _ h
theorem Zrm (n:Nat) (hn:0<n) (ps:List Str):∀ s q,Z6 (Uc ps) s=some q->Zek n q:=by
 suffices h:∀ (ps:List Str) (m:Defs),(∀ s q,Z6 m s=some q->Zek n q)->∀ s q,Z6 (ps.foldl (fun m s=>Yz m s (-1,0)) m) s=some q->Zek n q from h ps [] (fun s q h=>by simp[Z6] at h)
 intro ps
 induction ps with
 |nil=>intro m hm;exact hm
 |cons s ps ih=>intro m hm;exact ih _ (Zpw hm ⟨by simp,by simp only[];omega,by simp⟩)
theorem Znw {n b:Nat} (hb:b<n) (l:List GIns) (hl:l.length<=4096) (m:Defs) (hm:∀ s q,Z6 m s=some q->Zek n q):∀ s q,Z6 (X5 b l m) s=some q->Zek n q:=by
 suffices h:∀ k,k<=l.length->∀ s q,Z6 (X5 b (l.take k) m) s=some q->Zek n q by
  have:=h l.length (Lf _)
  rwa [List.take_length] at this
 intro k
 induction k with
 |zero=>intro _;simpa [X5] using hm
 |succ k ih=>
  intro hk;rw[K8 (List.getElem?_eq_getElem hk)];exact Zpw (ih (by omega)) ⟨by simp only[];omega,by simp only[];omega,by simp only[];omega⟩
theorem Zpz {f:GFun} (hne:f.bk9≠[]) (hc:∀ y∈f.bk9,y.code.length<=4096) (s:Str):Zek f.bk9.length (Yy f s):=by
 have hpos:=List.length_pos_iff.2 hne;have h:∀ s q,Z6 (Kt f) s=some q->Zek f.bk9.length q:=by
  suffices h:∀ k,k<=f.bk9.length->∀ s q,Z6 (Vw (f.bk9.take k) (Uc f.params)) s=some q->Zek f.bk9.length q by
   have:=h f.bk9.length (Lf _)
   rwa [List.take_length] at this
  intro k
  induction k with
  |zero=>intro _;simpa [Vw] using Zrm _ hpos f.params
  |succ k ih=>
   intro hk;rw[K7 (List.getElem?_eq_getElem hk)];exact Znw hk _ (hc _ (List.getElem_mem hk)) _ (ih (by omega))
 unfold Yy
 cases hq:Z6 (Kt f) s with
 |none=>exact⟨by simp,by simpa using hpos,by simp⟩
 |some q=>exact h s q hq
section
open Go.RowKit Go.Shelf
def U9 (r:Option (Nat×Nat)):Value:=.tuple #[.int .i64 ((r.getD (0,0)).1:Nat),.int .i64 ((r.getD (0,0)).2:Nat),.bool r.isSome]
theorem Zdd (f:GFun) (b B g:Nat) (lb:Array Value) (w:World) (q:Nat->Nat->GIns->Bool) (hB:B<=w.heap.size) (h:Body w B b f)
  (eg:∀ args w,(callFunc g args).run Tryz.prog w=.ok (.enter g args) w)
  (hp:∀ (k i:Nat) (y:GBlk) (x:GIns) (va vl:Value) (W:World),f.bk9[k]?=some y->y.code[i]?=some x->Below w.heap.size w W->InsAt W B x va vl->
   Calls Tryz.prog g (#[.int .i64 k,.int .i64 i,Uh x va vl]++lb) W fun e W'=>e=.returned (.bool (q k i x))/\Below w.heap.size w W'):
  Calls Tryz.prog 130 #[.pointer (some ⟨b,0,none⟩),.func (.func g) #[] lb] w fun e w'=>e=.returned (U9 (V7 f q))/\Below w.heap.size w w':=by
 obtain⟨A1,d1,A2,d2,S,S2,O,M,order,o,h⟩:=h;obtain⟨j1,_⟩:=Za h.blk;have e2:w.cell? ⟨b,2,none⟩=some (.slice A2 f.bk9.length d2):=j1 2;obtain⟨A2',d2',hAe,m2,hl2,hc2,hA⟩:=h.fn.bk9.open_;simp only[Value.slice.injEq] at hAe;obtain⟨rfl,_,rfl⟩:=hAe;have hlt:=h.lt;have HA:=hid hA;clear j1 h hA;go_enter Tryz.func130,Tryz.ntmps130;go_wp2;go_loopw [17] (fun s8 wr=>∃ k:Nat,k<=f.bk9.length/\s8=.int .i64 k/\Hid (Below w.heap.size w wr)/\Hid (∀ j,j<k->∀ y,f.bk9[j]?=some y->Zq y.code (fun i x=>if q j i x then some (j,i) else none)=none)) (fun s8 _=>f.bk9.length-(intOf s8).toNat)
 case atStart=>exact⟨0,Ln _,rfl,Below.refl _ _,Z2⟩
 case round=>
  obtain⟨k,hkl,rfl,hI,hP⟩:=hrel;clear e2
  by_cases hl:k<f.bk9.length
  ·obtain⟨y,b1,off1,hy,rfl,hbB1,hr1⟩:=HA.out.at_ hl;obtain⟨A5,d5,hyy,m5,e0,e1⟩:=Yg hr1;have hlow:=hI.out;have hbn1:b1≠wr.heap.size:=by have:=hlow.size;omega
   have hbl1:b1<wr.heap.size:=by have:=hlow.size;omega
   replace e0:=cur hlow (by omega) e0;replace e1:=cur hlow (by omega) e1;have Hyy:=hid hyy;have Hy:=hid hy;have h9:=hid (hI.out.alloc (by have:=hlow.size;omega) (.cells #[.string ⟨y.label.toArray⟩,.slice A5 y.code.length d5] 39));clear hr1 hy hyy hlow;go_wp2_with fail;go_loopw [25] (fun s8 wr=>∃ i:Nat,i<=y.code.length/\s8=.int .i64 i/\Hid (Below w.heap.size w wr)/\Hid (∀ j,j<i->∀ z,y.code[j]?=some z->q k j z=false)) (fun s8 _=>y.code.length-(intOf s8).toNat)
   case atStart=>exact⟨0,Ln _,rfl,h9,Z2⟩
   case round=>
    obtain⟨j,hjl,rfl,hJ,hQ⟩:=hrel;clear h9 e0 e1 hbn1 hbl1 hI
    by_cases hl2:j<y.code.length
    ·obtain⟨z,b3,off3,hz,rfl,hbB3,hr3⟩:=Hyy.out.code.at_ hl2;obtain⟨A6,d6,A7,d7,hzz,m6,m7,g0,g1,g2,g3,g4,g5,g6,g7⟩:=Yw hr3;have hlow:=hJ.out;have hbn3:b3≠wr.heap.size:=by have:=hlow.size;omega
     have hbl3:b3<wr.heap.size:=by have:=hlow.size;omega
     replace g0:=cur hlow (by omega) g0;replace g1:=cur hlow (by omega) g1;replace g2:=cur hlow (by omega) g2;replace g3:=cur hlow (by omega) g3;replace g4:=cur hlow (by omega) g4;replace g5:=cur hlow (by omega) g5;replace g6:=cur hlow (by omega) g6;replace g7:=cur hlow (by omega) g7;have hlow2:=hJ.out.alloc (show w.heap.size<=wr.heap.size by have:=hlow.size;omega) (.cells #[.int .u8 z.op,.string ⟨z.dst.toArray⟩,.string ⟨z.a.toArray⟩,.string ⟨z.b.toArray⟩,.int .i64 z.n,.string ⟨z.fn.toArray⟩,.slice A6 z.args.length d6,.slice A7 z.lb9.length d7] 25);have hcall:=hp k j y z (.slice A6 z.args.length d6) (.slice A7 z.lb9.length d7) _ Hy.out hz hlow2 (hzz.below hlow2 hB);simp only[Uh] at hcall;have Hz:=hid hz;have Hlow:=hid hlow2;clear hr3 hz hzz hlow hlow2
     cases hq:q k j z with
     |true=>
      rw[hq] at hcall;go_wp2_with (go_at_fn g;refine hcall.mono ?_;rintro e w' ⟨rfl,hb'⟩);refine bodyPost_ret (v:=U9 (some (k,j))) (by simp[results,Tryz.results130,go_sem,U9]) rfl ⟨by rw[Zoc hP.out Hy.out Hz.out hQ.out hq],hb'⟩
     |false=>
      rw[hq] at hcall;go_wp2_with (go_at_fn g;refine hcall.mono ?_;rintro e w' ⟨rfl,hb'⟩);go_roundw
      case rel=>exact⟨j+1,by omega,by go_num,hb',Zw Hz.out hQ.out hq⟩
      case measure=>simp[intOf];omega
    ·have hj:¬ j<y.code.length:=hl2;go_wp2;go_roundw
     case rel=>exact⟨k+1,by omega,by go_num,hJ,Zw Hy.out hP.out (K9 (Z9 hj hQ.out))⟩
     case measure=>simp[intOf];omega
  ·go_wp2;refine bodyPost_ret (v:=U9 none) (by simp[results,Tryz.results130,go_sem,U9]) rfl ⟨by rw[Ja (Z9 hl hP.out)],hI⟩
end
section
open Go.RowKit Go.Shelf
theorem op6 (o:Nat):((o:Int) != 6)= !(o == 6):=by
 by_cases h:o=6
 ·subst h;rfl
 ·have h1:(o == 6)=false:=beq_eq_false_iff_ne.2 h;have h2:((o:Int) == 6)=false:=beq_eq_false_iff_ne.2 (by omega);simp[bne,h1,h2]
theorem Zeq (f:GFun) (b B c:Nat) (w:World) (k i:Nat) (x:GIns) (va vl:Value) (h:Body w B b f) (hB:B<=w.heap.size) (hc:w.cell? ⟨c,0,none⟩=some (.pointer (some ⟨b,0,none⟩))) (hcl:c<w.heap.size)
  (hi:InsAt w B x va vl) (hne:f.bk9≠[]):
  Calls Tryz.prog 131 #[.int .i64 k,.int .i64 i,Uh x va vl,.pointer (some ⟨c,0,none⟩)] w fun e w'=>e=.returned (.bool (Uq f k i x))/\Below w.heap.size w w':=by
 obtain⟨A1,d1,A2,d2,S,S2,O,M,order,o,h⟩:=h;obtain⟨A4,d4,q4,_,_,_,_⟩:=hi.args.open_;obtain⟨A5,d5,q5,_,_,_,hL⟩:=hi.lb9.open_;subst q4;subst q5;obtain⟨j1,_⟩:=Za h.blk;have e2:w.cell? ⟨b,2,none⟩=some (.slice A2 f.bk9.length d2):=j1 2;obtain⟨A2',d2',hAe,m2,hl2,hc2,hA⟩:=h.fn.bk9.open_;simp only[Value.slice.injEq] at hAe;obtain⟨rfl,_,rfl⟩:=hAe;have hlen:0<f.bk9.length:=List.length_pos_iff.2 hne;obtain⟨y,b1,off1,hy,rfl,hbB1,hr1⟩:=hA.at_ hlen;obtain⟨A3,d3,hyy,m3,e0,e1⟩:=Yg hr1;have hlt:=h.lt;have hwN:=La w (.cells #[.int .u8 x.op,.string ⟨x.dst.toArray⟩,.string ⟨x.a.toArray⟩,.string ⟨x.b.toArray⟩,.int .i64 x.n,.string ⟨x.fn.toArray⟩,.slice A4 x.args.length d4,.slice A5 x.lb9.length d5] 25);have hhead:Ziq f=y.label:=by unfold Ziq Yo;rw[hy];rfl
 obtain⟨W,hW⟩:∃ W:World,W=w.alloc (.cells #[.int .u8 x.op,.string ⟨x.dst.toArray⟩,.string ⟨x.a.toArray⟩,.string ⟨x.b.toArray⟩,.int .i64 x.n,.string ⟨x.fn.toArray⟩,.slice A4 x.args.length d4,.slice A5 x.lb9.length d5] 25):=⟨_,rfl⟩
 have hbW:Below w.heap.size w W:=by rw[hW];exact (Below.refl _ w).alloc (Lf _) _
 have hLW:∀ n,StrsAt (W.drewN n) B (.slice A5 x.lb9.length d5) x.lb9:=fun n=>(hi.lb9.below strR.keeps hbW hB).keep strR.keeps fun p hp=>by rfl
 rw[<-hW] at hwN;have i0:W.cell? ⟨w.heap.size,0,none⟩=some (.int .u8 x.op):=(Za hwN).1 0;have i7:W.cell? ⟨w.heap.size,7,none⟩=some (.slice A5 x.lb9.length d5):=(Za hwN).1 7;have e2':W.cell? ⟨b,2,none⟩=some (.slice (some ⟨b1,off1,none⟩) f.bk9.length d2):=cur hbW (by omega) e2;have c0':W.cell? ⟨c,0,none⟩=some (.pointer (some ⟨b,0,none⟩)):=cur hbW (by omega) hc;have e0':W.cell? ⟨b1,off1,none⟩=some (.string ⟨y.label.toArray⟩):=cur hbW (by omega) e0;have hcall:=fun n=>K6 (.slice A5 x.lb9.length d5) x.lb9 y.label (W.drewN n) B (hLW n)
 have HbW:=hid hbW;clear hwN hLW hr1 hyy hy h hA j1 hL hi e2 hc e0 e1
 cases q1:x.op == 6 with
 |true=>
  have HR:=hid (show Uq f k i x=false by simp[Uq,q1]);have q2:=(op6 x.op).trans (congrArg not q1);simp only[Bool.not_true,Bool.not_false] at q2;simp only[Uh];go_enter Tryz.func131,Tryz.ntmps131;go_upto_region 1 with (fail)
  rw[<-hW];clear hW;have hlen':(0:Int)<(f.bk9.length:Int):=by omega
  go_quiet (fail);go_wp2;go_ret;exact⟨by rw[HR.out];rfl,by first|exact HbW.out.drewN _|exact Zk (Zg (Zj HbW.out) _)⟩
 |false=>
  have HR:=hid (show Uq f k i x=x.lb9.contains y.label by simp[Uq,q1,hhead]);have q2:=(op6 x.op).trans (congrArg not q1);simp only[Bool.not_true,Bool.not_false] at q2;simp only[Uh];go_enter Tryz.func131,Tryz.ntmps131;go_upto_region 1 with (fail)
  rw[<-hW];clear hW;have hlen':(0:Int)<(f.bk9.length:Int):=by omega
  go_quiet ((go_at_call 132;exact (hcall _).mono fun e w' h=>⟨h.1,_,h.2.symm⟩));go_wp2;go_ret;exact⟨by rw[HR.out];simp,by first|exact HbW.out.drewN _|exact Zk (Zg (Zj HbW.out) _)⟩
theorem Zat:∀ args w,(callFunc 131 args).run Tryz.prog w=.ok (.enter 131 args) w:=enters_of Tryz.func131 (by kernel_rfl) rfl
theorem Zht (f:GFun) (b B:Nat) (w:World) (h:Body w B b f) (hB:B<=w.heap.size) (hne:f.bk9≠[]):
  Calls Tryz.prog 90 #[.pointer (some ⟨b,0,none⟩)] w fun e w'=>e=.returned (U9 (V7 f (Uq f)))/\Below w.heap.size w w':=by
 have hb1:Below w.heap.size w (w.alloc (.cells #[.pointer (some ⟨b,0,none⟩)] 96)):=(Below.refl _ w).alloc (Lf _) _;have h1:=h.below hb1 hB;have hN:=La w (.cells #[.pointer (some ⟨b,0,none⟩)] 96);have hc0:=(Za hN).1 0
 have hfind:=Zdd f b B 131 #[.pointer (some ⟨w.heap.size,0,none⟩)] _ (Uq f) (by simp;omega) h1 Zat (fun k i y x va vl W hy hx hW hi=>by
  have:=Zeq f b B w.heap.size W k i x va vl (h1.below hW (by simp;omega)) (by have:=hW.size;simp at this;omega) ((hW.cell (p:=⟨w.heap.size,0,none⟩) (by simp)).trans hc0) (by have:=hW.size;simp at this;omega) hi hne
  exact this.mono fun e w' h=>⟨h.1,hW.trans (h.2.mono hW.size)⟩)
 obtain⟨⟨p,q⟩,hr⟩:∃ r:Option (Nat×Nat)×Unit,r.1=V7 f (Uq f):=⟨(_,()),rfl⟩
 rw[<-hr] at hfind ⊢;clear h h1 hr hN hc0 hb1;simp only[U9] at hfind;go_enter Tryz.func90,Tryz.ntmps90;go_wp2_with (go_at_call 130;refine hfind.mono ?_;rintro e w' ⟨rfl,hb'⟩);refine bodyPost_ret (v:=U9 p) (by simp[results,Tryz.results90,go_sem,U9]) rfl ⟨rfl,?_⟩;exact ((Below.refl _ w).alloc (Lf _) _).trans (hb'.mono (by simp))
end
section
open Go.RowKit Go.Shelf
theorem Zko (f:GFun) (out:List Bool) (h1:out.length=f.bk9.length) (h2:∀ k,out[k]?=some true↔Path (Zv f.bk9) 0 k):
  (idxOf (fun x=>x == false) out= -1/\Xw f=none)\/∃ k:Nat,idxOf (fun x=>x == false) out=k/\Xw f=some (k,0):=by
 have hv:∀ k,k<f.bk9.length->(out[k]?=some false↔J1 (Zv f.bk9) k=false):=by
  intro k hk;have hs:∃ v,out[k]?=some v:=⟨_,Ld (by omega)⟩
  obtain⟨v,hv⟩:=hs;have:=h2 k;unfold J1;rw[decide_eq_false_iff_not,<-this,hv]
  cases v<;>simp
 rcases Zgd (fun x=>x == false) out with ⟨ha,hi⟩|⟨j,x,hj,hx,hb,hi⟩
 ·left;refine⟨hi,?_⟩;unfold Xw;rw[Option.map_eq_none_iff,List.find?_eq_none];intro k hk;have hk':k<f.bk9.length:=by simpa using hk
  simp only[Bool.not_eq_true',Bool.not_eq_false]
  by_cases hr:J1 (Zv f.bk9) k=true
  ·exact hr
  ·exfalso
   have:=(hv k hk').2 (by simpa using hr);have:=ha false (Ll this);simp at this
 ·right;have hjl:j<f.bk9.length:=by rw[<-h1];exact (Le hj).1
  refine⟨j,hi,?_⟩;have hxf:x=false:=by simpa using hx
  subst hxf;have hf:((List.range f.bk9.length).find? fun k=> !(J1 (Zv f.bk9) k))=some j:=by
   rw[List.find?_range_eq_some];refine⟨by simp[(hv j hjl).1 hj],by simpa using hjl,fun i hi=>?_⟩;have hil:i<f.bk9.length:=by omega
   by_cases hr:J1 (Zv f.bk9) i=true
   ·simp[hr]
   ·have h3:=(hv i hil).2 (by simpa using hr);have:=hb i hi false h3;simp at this
  unfold Xw;rw[hf];rfl
theorem Zib (f:GFun) (b B:Nat) (w:World) (h:Body w B b f) (hB:B<=w.heap.size) (hok:OfOk f.bk9) (hne:f.bk9≠[]):
  Calls Tryz.prog 91 #[.pointer (some ⟨b,0,none⟩)] w fun e w'=>e=.returned (U9 (Xw f))/\Below w.heap.size w w':=by
 obtain⟨A1,d1,A2,d2,S,S2,O,M,order,o,h⟩:=h;obtain⟨j1,_⟩:=Za h.blk;have e3:w.cell? ⟨b,3,none⟩=some (.slice (some ⟨S,0,none⟩) f.bk9.length f.bk9.length):=j1 3;have hlen:0<f.bk9.length:=List.length_pos_iff.2 hne;have hlt:=h.lt;obtain⟨w1,hw1⟩:∃ w1:World,w1=w.alloc (.cells #[.int .i64 0] 3):=⟨_,rfl⟩
 have hb1:Below w.heap.size w w1:=by rw[hw1];exact (Below.refl _ w).alloc (Lf _) _
 have hz:w1.cell? ⟨w.heap.size,0,none⟩=some (.int .i64 0):=by rw[hw1];exact (Za (La w _)).1 0
 have hf:NatsAt w1 w1.heap.size (.slice (some ⟨w.heap.size,0,none⟩) 1 1) [0]:=by
  refine⟨_,1,rfl,by simp,by unfold maxLen;omega,fun k x hx=>⟨w.heap.size,0,rfl,by rw[hw1];simp,?_⟩⟩
  rcases k with _|k
  ·simp at hx;subst hx;exact⟨hz,by omega⟩
  ·simp at hx
 have hr:=Ztb (.slice (some ⟨S,0,none⟩) f.bk9.length f.bk9.length) (.slice (some ⟨w.heap.size,0,none⟩) 1 1) (Zv f.bk9) [0] w1.heap.size w1 (Lf _) ((h.succ.below rowR.keeps hb1 hB).more rowR.keeps (by rw[hw1];simp;omega)) (Zcj hok) hf (fun x hx=>by simp at hx;subst hx;rw[Zr];exact hlen);have Hb1:=hid hb1;clear h hz hf hb1 j1;go_enter Tryz.func91,Tryz.ntmps91;go_upto_region 2 with (fail)
 repeat go_step
 rw[<-hw1];refine hr.mono ?_;rintro e w2 ⟨O2,out,rfl,hO,hblk,hol,hiff,hb2⟩;rw[Zr] at hol;have hbt:Below w.heap.size w w2:=Hb1.out.trans (hb2.mono (by rw[hw1];simp));have hbo:BoolsAt w2 w2.heap.size (.slice (some ⟨O2,0,none⟩) f.bk9.length f.bk9.length) out:=by
  refine⟨_,f.bk9.length,by rw[hol],by omega,by unfold maxLen;have:=hok.len;omega,fun k x hx=>⟨O2,0,rfl,Ze hblk,?_⟩⟩;show w2.cell? _=_;rw[(Za hblk).1];simp[hx]
 have hidx:=Zom _ out false w2 w2.heap.size hbo;have hun:=Zko f out hol (fun k=>by rw[hiff];simp);clear hbo hiff hblk hb2 hr hw1 Hb1 e3;rw[Zr]
 rcases hun with ⟨hi,hu⟩|⟨k,hi,hu⟩
 ·rw[hi] at hidx;have Hu:=hid hu;clear hu hi;go_wp2_with (go_at_call 134;refine hidx.mono ?_;rintro e w' ⟨rfl,rfl⟩);refine bodyPost_ret (v:=U9 none) (by simp[results,Tryz.results91,go_sem,U9];rfl) rfl ⟨by rw[Hu.out],hbt⟩
 ·rw[hi] at hidx;have Hu:=hid hu;have hk0:(0:Int)<=(k:Int):=by omega
  clear hu hi;go_wp2_with (go_at_call 134;refine hidx.mono ?_;rintro e w' ⟨rfl,rfl⟩);refine bodyPost_ret (v:=U9 (some (k,0))) (by simp[results,Tryz.results91,go_sem,U9]) rfl ⟨by rw[Hu.out],hbt⟩
end

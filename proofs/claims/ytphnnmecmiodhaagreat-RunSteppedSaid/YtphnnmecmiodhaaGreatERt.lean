/- What one sees who moves a machine oneself. No condition. -/
import Derived.Test.YtphnnmecmiodhaaGreatERnc
set_option linter.all false
namespace Go.Proofs.YtphnnmecmiodhaaGreat
section
def wiF (p:GProg) (s:GM) (L:List (Int×Nat)):List FK:=L.map fun x=>(atP s,x)
theorem Yhi (p:GProg) (s:GM):∀ L:List (Int×Nat),(wiF p s L).flatMap clF=L.flatMap (Zwq (atP s))
 |[]=>rfl
 |x::L=>by
  have:=Yhi p s L;unfold wiF at this ⊢;rw[List.map_cons,List.flatMap_cons,List.flatMap_cons,this];rfl
theorem Yhj {p:GProg} {s:GM} {L:List (Int×Nat)} (h:IsF p s L) (x:FK):x∈wiF p s L↔x∈Zzf p s:=by
 unfold IsF at h;unfold wiF Zzf atP
 split at h
 ·rename_i h0
  rw[if_pos h0,if_pos h0];exact (h.1.map _).mem_iff
 ·rename_i h0
  subst h;simp[h0]
structure RnT (p:GProg) (cs:List Int) (k:Nat) (s:GM) (n:Nat) (LF:List FK) (LC:List CK):Prop where
 tr:∃ pre,Zzl p 16384 (gm0 p) cs=pre++Zzl p (16384-k) s (cs.drop n)/\pre.length=k/\(∀ x,x∈LF↔∃ t∈pre,x∈Zzf p t)/\(∀ x,x∈LC↔∃ t∈pre++[s],x∈Yab t)
 flen:LF.length<=5000*k
 clen:LC.length<=k
 nle:n<=cs.length
variable {p:GProg} {cs:List Int} {k n:Nat} {s s':GM} {LF:List FK} {LC:List CK} {FL:List FK} {CL:List CK} {st mv:Nat}
theorem RnT.start (p:GProg) (cs:List Int):RnT p cs 0 (gm0 p) 0 [] [] where
 tr:=⟨[],rfl,rfl,fun x=>by simp,fun x=>by simp[Yab,gm0]⟩
 flen:=by simp
 clen:=by simp
 nle:=by omega
theorem RnT.goes (h:RnT p cs k s n LF LC) (o:RunOut p cs FL CL st mv) (hk:k<mv):k<16384/\Zzk p s (cs.drop n)≠none:=by
 obtain⟨pre,h1,h2,-,-⟩:=h.tr;have hm:=o.moves;rw[h1,List.length_append,h2] at hm
 cases hn:16384-k with
 |zero=>rw[hn] at hm;simp[Zzl] at hm;omega
 |succ m=>
  rw[hn] at hm;refine⟨by omega,fun e=>?_⟩;rw[Ybg,e] at hm;simp at hm;omega
theorem RnT.go (h:RnT p cs k s n LF LC) (o:RunOut p cs FL CL st mv) (hk:k<mv):s.stop=0/\((Yp p s.top.pt).op=12->n<cs.length):=by
 obtain⟨-,hr⟩:=h.goes o hk;unfold Zzk at hr
 split at hr
 ·rename_i h0
  refine⟨h0,fun e=>?_⟩;rw[if_pos e] at hr
  rcases Nat.lt_or_ge n cs.length with hl|hl
  ·exact hl
  ·rw[List.drop_eq_nil_of_le hl] at hr;exact absurd rfl hr
 ·exact absurd rfl hr
theorem RnT.step (h:RnT p cs k s n LF LC) (o:RunOut p cs FL CL st mv) (hk:k<mv) {c:Int} {m:Nat} (hc:if (Yp p s.top.pt).op=12 then cs[n]?=some c/\m=n+1 else c=0/\m=n)
  {L:List (Int×Nat)} (hL:IsF p s L) (hl:L.length<=5000):RnT p cs (k+1) (s.move p (decide (c % 2=1))) m (LF++wiF p s L) (LC++Yab (s.move p (decide (c % 2=1)))):=by
 obtain⟨h16,-⟩:=h.goes o hk;obtain⟨h0,-⟩:=h.go o hk;obtain⟨pre,h1,h2,h3,h4⟩:=h.tr;have hr:Zzk p s (cs.drop n)=some (s.move p (decide (c % 2=1)),cs.drop m):=by
  unfold Zzk;rw[if_pos h0]
  split at hc
  ·rename_i e
   rw[if_pos e];obtain⟨hc,rfl⟩:=hc;obtain⟨hn,he⟩:=Le hc;rw[List.drop_eq_getElem_cons hn,he]
  ·rename_i e
   obtain⟨rfl,rfl⟩:=hc;rw[if_neg e];rfl
 refine⟨⟨pre++[s],?_,by simp[h2],fun x=>?_,fun x=>?_⟩,?_,?_,?_⟩
 ·rw[h1,show 16384-k=(16384-(k+1))+1 by omega,Ybg,hr,List.append_assoc];rfl
 ·rw[List.mem_append,h3,Yhj hL];simp[or_and_right,exists_or]
 ·rw[List.mem_append,h4];simp[or_and_right,exists_or,or_assoc]
 ·have:=h.flen;unfold wiF;simp;omega
 ·have:=h.clen;unfold Yab
  split<;>simp<;>omega
 ·have:=h.nle
  split at hc
  ·have:=(Le hc.1).1;omega
  ·omega
theorem RnT.last (h:RnT p cs k s n LF LC) (o:RunOut p cs FL CL st mv) (hk:k=mv) {L:List (Int×Nat)} (hL:IsF p s L):(∀ x,x∈FL↔x∈LF++wiF p s L)/\(∀ x,x∈CL↔x∈LC)/\st=if s.stop=0 then 7 else s.stop:=by
 obtain⟨pre,h1,h2,h3,h4⟩:=h.tr;have hm:=o.moves;have ht:Zzl p (16384-k) s (cs.drop n)=[s]:=by
  obtain⟨l,hl⟩:=Ydy p (16384-k) s (cs.drop n);rw[h1,List.length_append,h2,hl] at hm;simp at hm;have:l=[]:=List.eq_nil_of_length_eq_zero (by omega);rw[hl,this]
 rw[ht] at h1;refine⟨fun x=>?_,fun x=>?_,?_⟩
 ·rw[o.fmem,h1,List.mem_append,h3,Yhj hL];simp[or_and_right,exists_or]
 ·rw[o.cmem,h4,h1]
 ·obtain⟨t,ht,e⟩:=o.stop;rw[h1] at ht;simp at ht;subst ht;exact e
end
section
open Go.RowKit Go.Shelf
structure SdI (p:GProg) (w0 wS:World) (loS:Nat) (wB:Bs) (ms:Nat) (vq:Value) (mm:Nat) (W:World) (g:SAd) (s:GM) (LF:List FK) (LC:List CK) (vF vC:Value):Prop where
 two:TwoI p w0 wS loS wB ms vq W g s
 st:StOk p s
 gm:g.m=mm
 rF:W.ownsRow wS.heap.size 93 5 vF LF.length (LF.flatMap clF)
 rC:W.ownsRow wS.heap.size 81 4 vC LC.length (LC.flatMap clC)
 oF:∀ b,vF.ownBlock=some b->¬ SQ g b
 oC:∀ b,vC.ownBlock=some b->¬ SQ g b
 ne:∀ b,vF.ownBlock=some b->vC.ownBlock≠some b
variable {p:GProg} {w0 wS W W':World} {loS ms mm:Nat} {wB:Bs} {vq vF vC vF' vC':Value} {g g':SAd} {s s':GM} {LF:List FK} {LC:List CK}
theorem SdI.start (h:TwoI p w0 wS loS wB ms vq wS g s) (hs:StOk p s) (hm:g.m=mm):SdI p w0 wS loS wB ms vq mm wS g s [] [] (.slice none 0 0) (.slice none 0 0):=
 ⟨h,hs,hm,World.ownsRow_nil _ _ _ _,World.ownsRow_nil _ _ _ _,fun _ e=>by simp[Value.ownBlock] at e,fun _ e=>by simp[Value.ownBlock] at e,fun _ e=>by simp[Value.ownBlock] at e⟩
theorem SdI.grow (h:SdI p w0 wS loS wB ms vq mm W g s LF LC vF vC) (hg:W.grownBy W' none):SdI p w0 wS loS wB ms vq mm W' g s LF LC vF vC:=
 ⟨h.two.grow hg,h.st,h.gm,h.rF.kept hg (by cases vF.ownBlock<;>simp),h.rC.kept hg (by cases vC.ownBlock<;>simp),h.oF,h.oC,h.ne⟩
theorem SdI.move (h:SdI p w0 wS loS wB ms vq mm W g s LF LC vF vC) (hm:g'.m=g.m) (hs:Stp W g W' g') (ht:TwoI p w0 wS loS wB ms vq W' g' s') (hst:StOk p s'):SdI p w0 wS loS wB ms vq mm W' g' s' LF LC vF vC:=by
 refine⟨ht,hst,hm.trans h.gm,hs.chg.owns h.rF (fun n e q=>h.oF n e q),hs.chg.owns h.rC (fun n e q=>h.oC n e q),fun b e q=>?_,fun b e q=>?_,h.ne⟩
 ·rcases hs.new b q with q|q
  ·exact h.oF b e q
  ·have:=(h.rF.lt b e).2;omega
 ·rcases hs.new b q with q|q
  ·exact h.oC b e q
  ·have:=(h.rC.lt b e).2;omega
theorem SdI.putF (h:SdI p w0 wS loS wB ms vq mm W g s LF LC vF vC) {L:List FK} (ho:W'.ownsRow wS.heap.size 93 5 vF' L.length (L.flatMap clF)) (hg:W.grownBy W' vF.ownBlock) (hv:vF'.ownBlock=vF.ownBlock\/vF'.ownBlock=some W.heap.size):SdI p w0 wS loS wB ms vq mm W' g s L LC vF' vC:=by
 have hc:Chg (fun n=>vF.ownBlock=some n) W W':=Chg.grown hg fun r e=>e
 refine⟨h.two.other hc fun n q=>⟨h.oF n q,(h.rF.lt n q).1⟩,h.st,h.gm,ho,hc.owns h.rC (fun n e q=>h.ne n q e),fun b e q=>?_,h.oC,fun b e q=>?_⟩
 ·rcases hv with hv|hv
  ·exact h.oF b (hv▸e) q
  ·rw[hv] at e
   cases e
   have:=h.two.ma.lt q;omega
 ·rcases hv with hv|hv
  ·exact h.ne b (hv▸e) q
  ·rw[hv] at e
   cases e
   have:=(h.rC.lt _ q).2;omega
theorem SdI.putC (h:SdI p w0 wS loS wB ms vq mm W g s LF LC vF vC) {L:List CK} (ho:W'.ownsRow wS.heap.size 81 4 vC' L.length (L.flatMap clC)) (hg:W.grownBy W' vC.ownBlock) (hv:vC'.ownBlock=vC.ownBlock\/vC'.ownBlock=some W.heap.size):SdI p w0 wS loS wB ms vq mm W' g s LF L vF vC':=by
 have hc:Chg (fun n=>vC.ownBlock=some n) W W':=Chg.grown hg fun r e=>e
 refine⟨h.two.other hc fun n q=>⟨h.oC n q,(h.rC.lt n q).1⟩,h.st,h.gm,hc.owns h.rF (fun n e q=>h.ne n e q),ho,h.oF,fun b e q=>?_,fun b e q=>?_⟩
 ·rcases hv with hv|hv
  ·exact h.oC b (hv▸e) q
  ·rw[hv] at e
   cases e
   have:=h.two.ma.lt q;omega
 ·rcases hv with hv|hv
  ·exact h.ne b e (hv▸q)
  ·rw[hv] at q
   cases q
   have:=(h.rF.lt _ e).2;omega
theorem clF_one (L:List FK):∀ u∈L.flatMap clF,u.oneCell'=true:=fun u hu=>by
 obtain⟨x,-,h⟩:=List.mem_flatMap.1 hu;simp only[clF,List.mem_cons,List.not_mem_nil,or_false] at h
 rcases h with rfl|rfl|rfl|rfl|rfl<;>rfl
theorem Ygd (hN:NOk p) (K:GMOk p s) (N:KeysNd s) {L:List (Int×Nat)} (hL:IsF p s L):L.length<=5000:=by
 unfold IsF at hL
 split at hL
 ·obtain⟨l,a,ha⟩:=Zfc (s:=s) fun e=>by have:=K.done.1 e;omega
  rw[X1 ha] at hL;exact Ybz hN K N ha hL
 ·rw[hL];simp
theorem SdI.appF (h:SdI p w0 wS loS wB ms vq mm W g s LF LC vF vC) {L:List (Int×Nat)} {v2:Value} {b2:Nat} (ho:W.ownsRow b2 93 5 v2 L.length (L.flatMap (Zwq (atP s)))) (hl:LF.length+L.length<=1000000000) (ty:TypeId):
  ∃ A c W',(Builtin.append_ #[84,84] ty #[vF,v2]).run Tryz.prog W=.ok (.slice A (LF++wiF p s L).length c) W'/\SdI p w0 wS loS wB ms vq mm W' g s (LF++wiF p s L) LC (.slice A (LF++wiF p s L).length c) vC:=by
 have hle:wS.heap.size<=W.heap.size:=h.two.map.size;have ho':W.ownsRow b2 93 5 v2 L.length ((wiF p s L).flatMap clF):=by rw[Yhi];exact ho
 obtain⟨v',W',hr,o,hg,hv⟩:=Ygo (P:=Tryz.prog) 84 ty wS.heap.size 93 _ 5 40 Tryz.underlying84 Yes rfl (by decide) vF LF.length (LF.flatMap clF) h.rF b2 v2 L.length _ ho' (clF_one _) (by unfold maxLen;omega) (by omega) hle;have e1:LF.length+L.length=(LF++wiF p s L).length:=by simp[wiF]
 rw[<-List.flatMap_append,e1] at o;obtain⟨A,c,rfl,-,-,-,-⟩:=Zz o;exact⟨A,c,W',hr,h.putF o hg hv⟩
theorem SdI.appC (h:SdI p w0 wS loS wB ms vq mm W g s LF LC vF vC) (x:CK) {b:Nat} {t:TypeId} (hb:W.heap[b]?=some (.cells #[.int .i64 x.1.1,.int .i64 x.1.2.1,.int .i64 x.1.2.2,.int .i64 x.2] t (0,0))) (hl:LC.length+1<=1000000000) (ty:TypeId):
  ∃ A c W',(Builtin.append_ #[100,100] ty #[vC,.slice (some ⟨b,0,none⟩) 1 1]).run Tryz.prog W=.ok (.slice A (LC++[x]).length c) W'/\SdI p w0 wS loS wB ms vq mm W' g s LF (LC++[x]) vF (.slice A (LC++[x]).length c):=by
 have hle:wS.heap.size<=W.heap.size:=h.two.map.size
 obtain⟨G,c,W',hr,o,hg,hv⟩:=Ztf (P:=Tryz.prog) 100 ty wS.heap.size 81 _ 4 32 Tryz.underlying100 Yer rfl (by decide) vC (LC.flatMap clC) LC.length h.rC b (clC x) rfl (fun u hu=>by
  simp only[clC,List.mem_cons,List.not_mem_nil,or_false] at hu
  rcases hu with rfl|rfl|rfl|rfl<;>rfl) _ t hb rfl (by unfold maxLen;omega) (by omega) hle
 have e1:LC.length+1=(LC++[x]).length:=by simp
 have e2:LC.flatMap clC++clC x=(LC++[x]).flatMap clC:=by simp
 rw[e1,e2] at o;rw[e1] at hr
 exact⟨_,c,W',hr,h.putC o hg (by
  rcases hv with hv|rfl
  ·exact .inl (by rw[hv];rfl)
  ·exact .inr rfl)⟩
end

/- Who has more choices sees no less. No condition. -/
import Derived.Test.YtphnnmecmiodhaaGreatERnc
set_option maxHeartbeats 4000000
set_option maxRecDepth 100000
set_option linter.all false
namespace Go.Proofs.YtphnnmecmiodhaaGreat
open Lib(hid)
section
structure Ptr {α:Type} (A B:List α) (k i:Nat):Prop where
 le:k<=A.length
 out:∀ x,A[k]?=some x->x∉B.take i
theorem Ptr.start {α:Type} (A B:List α):Ptr A B 0 0:=⟨Ln _,fun x _ h=>by simp at h⟩
theorem Ptr.miss {α:Type} {A B:List α} {k i:Nat} {y:α} (h:Ptr A B k i) (hb:B[i]?=some y) (hn:A[k]?≠some y):Ptr A B k (i+1):=⟨h.le,fun x hx hm=>by
 rw[List.take_add_one,hb] at hm
 rcases List.mem_append.1 hm with hm|hm
 ·exact h.out x hx hm
 ·simp at hm
  subst hm
  exact hn hx⟩
theorem Ptr.hit {α:Type} {r:α->α->Prop} (hi:∀ x,¬ r x x) (ht:∀ x y z,r x y->r y z->r x z) {A B:List α} {k i:Nat} {x:α} (hA:A.Pairwise r) (hB:B.Pairwise r) (h:Ptr A B k i) (ha:A[k]?=some x) (hb:B[i]?=some x):Ptr A B (k+1) (i+1):=by
 obtain⟨hk,e1⟩:=Le ha;obtain⟨hil,e2⟩:=Le hb;refine⟨hk,fun y hy hm=>?_⟩;obtain⟨hk1,e3⟩:=Le hy;have h1:r x y:=by
  have:=List.pairwise_iff_getElem.1 hA k (k+1) hk hk1 (Nat.lt_succ_self k)
  rwa [e1,e3] at this
 obtain⟨j,hj,e4⟩:=List.mem_iff_getElem.1 hm;rw[List.length_take] at hj;rw[List.getElem_take] at e4
 rcases Nat.lt_or_ge j i with hji|hji
 ·have:=List.pairwise_iff_getElem.1 hB j i (by omega) hil hji;rw[e4,e2] at this;exact hi x (ht x y x h1 this)
 ·obtain rfl:j=i:=by omega
  rw[e2] at e4;subst e4;exact hi x h1
theorem Ptr.fin {α:Type} {A B:List α} {k:Nat} (h:Ptr A B k B.length) (hs:∀ x∈A,x∈B):k=A.length:=by
 rcases Nat.lt_or_ge k A.length with hk|hk
 ·have:=h.out _ (Ld hk);rw[List.take_length] at this;exact absurd (hs _ (List.getElem_mem hk)) this
 ·have:=h.le;omega
variable {p:GProg} {cs ms:List Int} {FL FL':List FK} {CL CL':List CK} {st st' mv mv':Nat}
theorem RunOut.ends (h:RunOut p cs FL CL st mv):st≠0/\mv<=16384:=by
 obtain⟨s,-,hs⟩:=h.stop;have:=Yed p 16384 (gm0 p) cs;have:=h.moves;refine⟨?_,by omega⟩;rw[hs]
 split<;>omega
theorem RunOut.more (h:RunOut p cs FL CL st mv) (h':RunOut p (cs++ms) FL' CL' st' mv'):mv<=mv'/\(∀ x∈FL,x∈FL')/\(∀ x∈CL,x∈CL')/\((st≠7\/mv=16384)->FL=FL'/\CL=CL'/\st=st'/\mv=mv'):=by
 obtain⟨h1,h2⟩:=Yea p ms 16384 (gm0 p) cs;refine⟨?_,fun x hx=>?_,fun x hx=>?_,fun e=>?_⟩
 ·have:=h1.length_le;have:=h.moves;have:=h'.moves;omega
 ·obtain⟨s,hs,hm⟩:=(h.fmem x).1 hx;exact (h'.fmem x).2 ⟨s,h1.subset hs,hm⟩
 ·obtain⟨s,hs,hm⟩:=(h.cmem x).1 hx;exact (h'.cmem x).2 ⟨s,h1.subset hs,hm⟩
 ·have e2:=h2 (by
   rcases e with e|e
   ·obtain⟨s,hs,hst⟩:=h.stop
    refine .inl ⟨s,hs,fun e0=>e ?_⟩
    rw[hst,if_pos e0]
   ·exact .inr (by rw[<-h.moves,e]))
  refine⟨Ydm Ycm Ydh h.ford h'.ford fun x=>?_,Ydm Yej Yen h.cord h'.cord fun x=>?_,?_,?_⟩
  ·rw[h.fmem,h'.fmem,e2]
  ·rw[h.cmem,h'.cmem,e2]
  ·obtain⟨s,hs,hst⟩:=h.stop;obtain⟨s',hs',hst'⟩:=h'.stop;rw[e2,hs] at hs'
   cases hs'
   rw[hst,hst']
  ·have:=h.moves;have:=h'.moves;rw[e2] at this;omega
end
section
open Go.RowKit Go.Shelf
theorem Yhb (L:List FK) (v1 v2:Value) (w:World) (b1 b2:Nat) (h1:w.ownsRow b1 93 5 v1 L.length (L.flatMap clF)) (h2:w.ownsRow b2 93 5 v2 L.length (L.flatMap clF)):Calls Tryz.prog 43 #[v1,v2] w fun e w'=>e=.returned (.bool true)/\w.grownBy w' none:=by
 have H1:=hid h1;have H2:=hid h2;obtain⟨A1,c1,rfl,u1,u2,-,-⟩:=Zz h1;obtain⟨A2,c2,rfl,-,-,-,-⟩:=Zz h2;have hn:L.length<=9223372036854775807:=by unfold maxLen at u2;omega
 clear h1 h2 u1 u2;go_enter Tryz.func43,Tryz.ntmps43;go_wp2;go_loopw [5] (fun s5 wr=>∃ i:Nat,i<=L.length/\s5=.int .i64 i/\Hid (w.grownBy wr none)) (fun s5 _=>L.length-(intOf s5).toNat)
 case atStart=>exact⟨0,Ln _,rfl,Lb _ _⟩
 case round=>
  obtain⟨i,hi,rfl,hg⟩:=hrel
  by_cases hil:i<L.length
  ·obtain⟨x,hx⟩:∃ x,L[i]?=some x:=⟨_,Ld hil⟩
   obtain⟨G1,k1,e1,-,f1⟩:=Yam H1.out hx;obtain⟨G2,k2,e2,-,f2⟩:=Yam H2.out hx;injection e1 with e1 e1' e1''
   injection e2 with e2 e2' e2''
   subst e1 e2 e1'' e2'';clear e1' e2' hx;obtain⟨a0,a1,a2,a3,a4⟩:=f1 wr hg.out;obtain⟨d0,d1,d2,d3,d4⟩:=f2 wr hg.out;clear f1 f2;go_upto_region 6 with (fail)
   go_quiet (fail);go_wp2_with fail;go_roundw
   case rel=>exact⟨i+1,by omega,by go_num,Zg hg.out nq⟩
   case measure=>simp[intOf];omega
  ·obtain rfl:i=L.length:=by omega
   go_wp2_with fail;go_ret;exact⟨rfl,hg.out⟩
theorem Ygp (L:List FK) (M:List CK) (v1 v2 u1 u2:Value) (st mv:Nat) (w:World) (b1 b2 b3 b4:Nat) (h1:w.ownsRow b1 93 5 v1 L.length (L.flatMap clF)) (h2:w.ownsRow b2 93 5 v2 L.length (L.flatMap clF))
  (h3:w.ownsRow b3 81 4 u1 M.length (M.flatMap clC)) (h4:w.ownsRow b4 81 4 u2 M.length (M.flatMap clC)):
  Calls Tryz.prog 54 #[.agg #[v1,u1,.int .u8 st,.int .i64 mv],.agg #[v2,u2,.int .u8 st,.int .i64 mv]] w fun e w'=>e=.returned (.bool true)/\w.grownBy w' none:=by
 have H3:=hid h3;have H4:=hid h4;obtain⟨A1,c1,rfl,-,-,-,-⟩:=Zz h1;obtain⟨A2,c2,rfl,-,-,-,-⟩:=Zz h2;obtain⟨A3,c3,rfl,y1,y2,-,-⟩:=Zz h3;obtain⟨A4,c4,rfl,-,-,-,-⟩:=Zz h4;have hn:M.length<=9223372036854775807:=by unfold maxLen at y2;omega
 obtain⟨W0,hW0⟩:∃ W:World,W=w.alloc (.cells #[.slice A1 L.length c1,.slice A3 M.length c3,.int .u8 st,.int .i64 mv] 106):=⟨_,rfl⟩
 obtain⟨W,hW⟩:∃ W:World,W=W0.alloc (.cells #[.slice A2 L.length c2,.slice A4 M.length c4,.int .u8 st,.int .i64 mv] 106):=⟨_,rfl⟩
 have hb1:W0.heap[w.heap.size]?=some (.cells #[.slice A1 L.length c1,.slice A3 M.length c3,.int .u8 st,.int .i64 mv] 106 (0,0)):=by rw[hW0];exact La _ _
 have hb2:W.heap[W0.heap.size]?=some (.cells #[.slice A2 L.length c2,.slice A4 M.length c4,.int .u8 st,.int .i64 mv] 106 (0,0)):=by rw[hW];exact La _ _
 have hs0:W0.heap.size=w.heap.size+1:=by rw[hW0];simp
 have hg:w.grownBy W none:=by rw[hW,hW0];exact Zd (Lc _ _ _) _
 have hg0:W0.grownBy W none:=by rw[hW];exact Lc _ _ _
 have hb1:=(hg0.block _ (Ze hb1) (by simp)).trans hb1;have hsm:=Yhb L _ _ W b1 b2 (h1.kept hg (Classical.em _)) (h2.kept hg (Classical.em _));obtain⟨e1,he1⟩:∃ e,e=w.heap.size:=⟨_,rfl⟩
 obtain⟨e2,he2⟩:∃ e,e=w.heap.size+1:=⟨_,rfl⟩
 rw[hs0,<-he2] at hb2;rw[<-he1] at hb1;have HB:=hid (show ∀ W',W.grownBy W' none->W'.cell? ⟨e1,1,none⟩=some (.slice A3 M.length c3)/\W'.cell? ⟨e2,1,none⟩=some (.slice A4 M.length c4) from fun W' hg=>⟨(Za ((hg.block _ (Ze hb1) (by simp)).trans hb1)).1 1,(Za ((hg.block _ (Ze hb2) (by simp)).trans hb2)).1 1⟩);have a0:W.cell? ⟨e1,0,none⟩=some (.slice A1 L.length c1):=(Za hb1).1 0;have a2:W.cell? ⟨e1,2,none⟩=some (.int .u8 st):=(Za hb1).1 2;have a3:W.cell? ⟨e1,3,none⟩=some (.int .i64 mv):=(Za hb1).1 3;have d0:W.cell? ⟨e2,0,none⟩=some (.slice A2 L.length c2):=(Za hb2).1 0;have d2:W.cell? ⟨e2,2,none⟩=some (.int .u8 st):=(Za hb2).1 2;have d3:W.cell? ⟨e2,3,none⟩=some (.int .i64 mv):=(Za hb2).1 3;have Hg:=hid hg;clear h1 h2 h3 h4 y1 y2 hs0 hg0 hb1 hb2 hg;go_enter Tryz.func54,Tryz.ntmps54;go_upto_region 1 with (fail)
 rw[<-hW0,<-hW,<-he2,<-he1];clear hW0 hW he1 he2;go_wp2_with (go_at_call 43;refine hsm.mono ?_;rintro e w1 ⟨rfl,hg1⟩;obtain⟨x0,x1⟩:=HB.out w1 hg1);have Hg1:=hid hg1;clear hg1 hsm a0 a2 a3 d0 d2 d3 x0 x1;go_loopw [5] (fun s5 wr=>∃ i:Nat,i<=M.length/\s5=.int .i64 i/\Hid (W.grownBy wr none)) (fun s5 _=>M.length-(intOf s5).toNat)
 case atStart=>exact⟨0,Ln _,rfl,Hg1.out⟩
 case round=>
  obtain⟨i,hi,rfl,hgr⟩:=hrel;obtain⟨x0,x1⟩:=HB.out wr hgr.out
  by_cases hil:i<M.length
  ·obtain⟨x,hx⟩:∃ x,M[i]?=some x:=⟨_,Ld hil⟩
   obtain⟨G1,k1,e1,-,f1⟩:=Yem H3.out hx;obtain⟨G2,k2,e2,-,f2⟩:=Yem H4.out hx;injection e1 with e1 e1' e1''
   injection e2 with e2 e2' e2''
   subst e1 e2 e1'' e2'';clear e1' e2' hx;obtain⟨a0,a1,a2,a3⟩:=f1 wr (Zb Hg.out hgr.out);obtain⟨d0,d1,d2,d3⟩:=f2 wr (Zb Hg.out hgr.out);clear f1 f2;go_upto_region 6 with (fail)
   go_quiet (fail);go_wp2_with fail;go_roundw
   case rel=>exact⟨i+1,by omega,by go_num,Zg hgr.out nq⟩
   case measure=>simp[intOf];omega
  ·obtain rfl:i=M.length:=by omega
   have Hgz:=hid (Zb Hg.out hgr.out);go_wp2_with fail;go_ret;exact⟨rfl,Hgz.out⟩
end
section
open Go.RowKit Go.Shelf
section
variable {P:Program} {ops:Array Oper} {Q:Exit->Act->World->Prop} {md:Region.Mode} {S:World->Prop} {oi:Oper} {v:Value} {fuel:Nat} {listed:Array Bool} {a:Act} {w:World}
theorem tkd (i j:Nat) {o o':Oper} (hr:Region.ready md ops listed=[i,j])
  (h:∀ K':Act->World->Prop,Shut (∀ a w,S w->(S w->wpAnyH P md ops Q S fuel (listed.setIfInBounds i true) a w)->K' a w)->if Region.wanted o (yielded ops a.tmps)=true then Oper.wp P o a w K' Q else K' (a.put o.dst undef) w)
  (h':∀ K':Act->World->Prop,Shut (∀ a w,S w->(S w->wpAnyH P md ops Q S fuel (listed.setIfInBounds j true) a w)->K' a w)->if Region.wanted o' (yielded ops a.tmps)=true then Oper.wp P o' a w K' Q else K' (a.put o'.dst undef) w)
  (ho:ops[i]?=some o:=by simp only[List.getElem?_toArray,List.getElem?_cons_zero,List.getElem?_cons_succ];rfl)
  (ho':ops[j]?=some o':=by simp only[List.getElem?_toArray,List.getElem?_cons_zero,List.getElem?_cons_succ];rfl):wpAnyH P md ops Q S (fuel+1) listed a w:=wpAnyH_ready hr (by simp) (AllReadyH.cons ho h (AllReadyH.cons ho' h' AllReadyH.nil))
end
theorem Yhe (ty:TypeId) {W:World} {B:Nat} {v1:Value} {cs:List Int} (h1:SlAt intR 1 W B v1 cs) (l1:cs.length<=1000):
  ∃ u W1,(Builtin.append_ #[62,62] ty #[.slice none 0 0,v1]).run Tryz.prog W=.ok u W1/\W1.ownsRow W.heap.size 3 1 u cs.length (cs.map (Value.int .i64))/\W.grownBy W1 none:=by
 obtain⟨u,W1,r1,o1,g1,-⟩:=Ygc (P:=Tryz.prog) (R:=intR) 62 ty W.heap.size 3 (.int .i64 0) 8 Tryz.underlying62 Zjx rfl (Value.int .i64) (fun _=>rfl) (fun _ _ _ _ _ h=>h.1) (.slice none 0 0) [] (World.ownsRow_nil W W.heap.size 3 1) B v1 cs h1 (by simp;unfold maxLen;omega) (by simp;omega) (Lf _);exact⟨u,W1,r1,o1,g1⟩
theorem Yhf {W:World} {B:Nat} {v:Value} {l:List Int} (h:SlAt intR 1 W B v l):∀ x∈l,-9223372036854775808<=x/\x<=9223372036854775807:=fun x hx=>by
 obtain⟨k,hk⟩:=List.mem_iff_getElem?.1 hx;obtain⟨A,c,-,-,-,hc⟩:=h;obtain⟨b,o,-,-,hr⟩:=hc k x hk;exact hr.2
theorem Yhd (ty:TypeId) {W1:World} {B bs:Nat} {v1 v2 u:Value} {cs ms:List Int} (h1:SlAt intR 1 W1 B v1 cs) (h2:SlAt intR 1 W1 B v2 ms) (hbs:bs<=W1.heap.size) (l1:cs.length<=1000) (l2:ms.length<=1000) (o1:W1.ownsRow bs 3 1 u cs.length (cs.map (Value.int .i64))):
  ∃ A n c W2,(Builtin.append_ #[62,62] ty #[u,v2]).run Tryz.prog W1=.ok (.slice A n c) W2/\SlAt intR 1 W2 W2.heap.size (.slice A n c) (cs++ms)/\W1.grownBy W2 u.ownBlock:=by
 obtain⟨v,W2,r2,o2,g2,e2⟩:=Ygc (P:=Tryz.prog) (R:=intR) 62 ty bs 3 (.int .i64 0) 8 Tryz.underlying62 Zjx rfl (Value.int .i64) (fun _=>rfl) (fun _ _ _ _ _ h=>h.1) u cs o1 B v2 ms h2 (by unfold maxLen;omega) (by omega) hbs;obtain⟨A,c,rfl,-,-,-,-⟩:=Zz o2;refine⟨A,_,c,W2,r2,SlAt.of_own (Value.int .i64) o2 fun b o x hx hc=>⟨hc,?_⟩,g2⟩
 rcases List.mem_append.1 hx with hx|hx
 ·exact Yhf h1 x hx
 ·exact Yhf h2 x hx
end

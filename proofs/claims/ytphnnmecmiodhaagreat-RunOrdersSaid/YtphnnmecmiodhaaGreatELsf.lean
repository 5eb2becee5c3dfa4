/- gnomonref14. Conditions in it. -/
import Derived.Test.YtphnnmecmiodhaaGreatESf
set_option maxHeartbeats 4000000
set_option maxRecDepth 100000
set_option linter.unusedVariables false
set_option linter.unusedSimpArgs false
namespace Go.Proofs.YtphnnmecmiodhaaGreat
open Lib(hid)
section
open Go.RowKit Go.Shelf
theorem Zxd {w:World} {base:Nat} {v:Value} {q:GPt} {L:List (Int×Nat)} (h:w.ownsRow base 93 5 v L.length (L.flatMap (Zwq q))) {i:Nat} {x:Int×Nat} (hx:L[i]?=some x):∃ G c,v=.slice (some ⟨G,0,none⟩) L.length c/\
  ∀ W',w.grownBy W' none->W'.cell? ⟨G,i*5,none⟩=some (.int .i64 q.1)/\W'.cell? ⟨G,i*5+1,none⟩=some (.int .i64 q.2.1)/\W'.cell? ⟨G,i*5+2,none⟩=some (.int .i64 q.2.2)/\W'.cell? ⟨G,i*5+3,none⟩=some (.int .i64 x.1)/\W'.cell? ⟨G,i*5+4,none⟩=some (.int .i64 x.2):=by
 have hil:=(Le hx).1;obtain⟨A,c,rfl,-,-,h3,h4⟩:=Zz h
 cases A with
 |none=>have:=(h3 rfl).1;omega
 |some b=>
  obtain⟨e,-,-⟩:=h4 b rfl;rw[e] at h ⊢;obtain⟨-,-,-,-,h6⟩:=Xm h;have key:∀ j u,j<5->(Zwq q x)[j]?=some u->w.cell? ⟨b.block,i*5+j,none⟩=some u:=fun j u hj hu=>h6 (i*5+j) u (by rw[Qz (sz:=5) (fun _ _=>rfl) hx hj];exact hu)
  exact⟨b.block,c,rfl,fun W' hg=>⟨Zp hg (key 0 _ (by omega) rfl),Zp hg (key 1 _ (by omega) rfl),Zp hg (key 2 _ (by omega) rfl),Zp hg (key 3 _ (by omega) rfl),Zp hg (key 4 _ (by omega) rfl)⟩⟩
theorem Zyq (L:List (Int×Nat)) (q:GPt) (v1 v2:Value) (w:World) (b1 b2:Nat) (h1:w.ownsRow b1 93 5 v1 L.length (L.flatMap (Zwq q))) (h2:w.ownsRow b2 93 5 v2 L.length (L.flatMap (Zwq q))):Calls Tryz.prog 43 #[v1,v2] w fun e w'=>e=.returned (.bool true)/\w.grownBy w' none:=by
 have H1:=hid h1;have H2:=hid h2;obtain⟨A1,c1,rfl,u1,u2,-,-⟩:=Zz h1;obtain⟨A2,c2,rfl,-,-,-,-⟩:=Zz h2;have hn:L.length<=9223372036854775807:=by unfold maxLen at u2;omega
 clear h1 h2 u1 u2;go_enter Tryz.func43,Tryz.ntmps43;go_wp2;go_loopw [5] (fun s5 wr=>∃ i:Nat,i<=L.length/\s5=.int .i64 i/\Hid (w.grownBy wr none)) (fun s5 _=>L.length-(intOf s5).toNat)
 case atStart=>exact⟨0,Lm _,rfl,Lb _ _⟩
 case round=>
  obtain⟨i,hi,rfl,hg⟩:=hrel
  by_cases hil:i<L.length
  ·obtain⟨x,hx⟩:∃ x,L[i]?=some x:=⟨_,Ld hil⟩
   obtain⟨G1,k1,e1,f1⟩:=Zxd H1.out hx;obtain⟨G2,k2,e2,f2⟩:=Zxd H2.out hx;injection e1 with e1 e1' e1''
   injection e2 with e2 e2' e2''
   subst e1 e2;clear e1' e1'' e2' e2'' hx;obtain⟨a0,a1,a2,a3,a4⟩:=f1 wr hg.out;obtain⟨d0,d1,d2,d3,d4⟩:=f2 wr hg.out;clear f1 f2;go_upto_region 6 with (fail)
   go_quiet (fail);go_wp2_with fail;go_roundw
   case rel=>exact⟨i+1,by omega,by go_num,Zg hg.out nq⟩
   case measure=>simp[intOf];omega
  ·obtain rfl:i=L.length:=by omega
   go_wp2_with fail;go_ret;exact⟨rfl,hg.out⟩
end
def atS (f:GFun) (s:Str) (i:Nat):Bool:=if (Yy f s).1=0 then decide ((Yy f s).2<i) else (decide (s=nought)||decide ((Yy f s).1<0))
def Zde (f:GFun):Bool:=f.blocks.length == 1&&f.blocks.all fun y=>y.code.zipIdx.all fun q=> !(q.1.op == 6)&& !(q.1.labels.contains (Ziq f))&&(Kj q.1).all fun s=>atS f s q.2
theorem atS_at {f:GFun} {s:Str} {i:Nat} (h:atS f s i=true):atB f s 0 i=true:=by
 unfold atS at h;unfold atB
 by_cases hd:(Yy f s).1=0
 ·rw[if_pos hd] at h;rw[if_pos (by simpa using hd)];exact h
 ·rw[if_neg hd] at h;rw[if_neg (by simpa using hd)];unfold Xk;simp only[Bool.or_eq_true,decide_eq_true_eq] at h
  rcases h with h|h
  ·simp[h]
  ·simp[h]
theorem Zhz {f:GFun} (h:Zde f=true):∀ r∈Yv,U3 f r=none:=by
 simp only[Zde,Bool.and_eq_true,beq_iff_eq,List.all_eq_true] at h;obtain⟨hl,ha⟩:=h;have key:∀ b y,f.blocks[b]?=some y->∀ i x,y.code[i]?=some x->b=0/\(x.op == 6)=false/\x.labels.contains (Ziq f)=false/\∀ s∈Kj x,atS f s i=true:=by
  intro b y hy i x hx;have hb:=(Le hy).1;have hm:(x,i)∈y.code.zipIdx:=by
   rw[List.mem_zipIdx_iff_getElem?];exact hx
  have h1:=ha y (Lj hy) (x,i) hm;simp only[Bool.and_eq_true,Bool.not_eq_true',List.all_eq_true] at h1;exact⟨by omega,h1.1.1,h1.1.2,h1.2⟩
 intro r hr;simp only[Yv,List.mem_cons,List.not_mem_nil,or_false] at hr
 rcases hr with rfl|rfl|rfl|rfl
 ·show V7 f (Uq f)=none;refine Ja fun b _ y hy=>K9 fun i _ x hx=>?_
  obtain⟨_,_,h3,_⟩:=key b y hy i x hx;unfold Uq;rw[h3,Bool.and_false]
 ·show Xw f=none;unfold Xw;rw[Option.map_eq_none_iff,List.find?_eq_none];intro k hk;have hk0:k=0:=by rw[List.mem_range] at hk;omega
  subst hk0;have:Path (Zv f.blocks) 0 0:=.refl;simp[J1,this]
 ·show V7 f (Zcz f)=none;refine Ja fun b _ y hy=>K9 fun i _ x hx=>?_
  obtain⟨_,h2,_,_⟩:=key b y hy i x hx;unfold Zcz;rw[h2];rfl
 ·show V7 f (X6 f)=none;refine Ja fun b _ y hy=>K9 fun i _ x hx=>?_
  obtain⟨rfl,h2,_,h4⟩:=key b y hy i x hx;unfold X6;rw[if_neg (by simpa using h2),List.any_eq_false];intro s hs;rw[atS_at (h4 s hs)];simp
theorem Zkk {p:GProg} (h0:(Yc p).1=0) (h1:p.all Zde=true) (hv:Kc p<=65536) (hf:Jj p<=65536):Y5 p=(0,(0,0,0)):=by
 rw[Zeh h0 (fun r hr=>Zja fun j hj f hf=>?_),if_neg (by omega)];exact Zhz (List.all_eq_true.1 h1 f (Lj hf)) r hr

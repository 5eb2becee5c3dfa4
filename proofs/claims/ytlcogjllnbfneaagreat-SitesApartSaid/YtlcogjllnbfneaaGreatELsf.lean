/- Programs whose functions have one block each. No condition. -/
import Derived.Test.YtlcogjllnbfneaaGreatESnp
set_option linter.all false
namespace Go.Proofs.YtlcogjllnbfneaaGreat
def atS (f:GFun) (s:Str) (i:Nat):Bool:=if (Yy f s).1=0 then decide ((Yy f s).2<i) else (decide (s=Q2)||decide ((Yy f s).1<0))
def Zde (f:GFun):Bool:=f.bk9.length == 1&&f.bk9.all fun y=>y.code.zipIdx.all fun q=> !(q.1.op == 6)&& !(q.1.lb9.contains (Ziq f))&&(Kj q.1).all fun s=>atS f s q.2
theorem atS_at {f:GFun} {s:Str} {i:Nat} (h:atS f s i=true):atB f s 0 i=true:=by
 unfold atS at h;unfold atB
 by_cases hd:(Yy f s).1=0
 ·rw[if_pos hd] at h;rw[if_pos (by simpa using hd)];exact h
 ·rw[if_neg hd] at h;rw[if_neg (by simpa using hd)];unfold Xk;simp only[Bool.or_eq_true,decide_eq_true_eq] at h
  rcases h with h|h
  ·simp[h]
  ·simp[h]
theorem Zhz {f:GFun} (h:Zde f=true):∀ r∈Yv,U3 f r=none:=by
 simp only[Zde,Bool.and_eq_true,beq_iff_eq,List.all_eq_true] at h;obtain⟨hl,ha⟩:=h;have key:∀ b y,f.bk9[b]?=some y->∀ i x,y.code[i]?=some x->b=0/\(x.op == 6)=false/\x.lb9.contains (Ziq f)=false/\∀ s∈Kj x,atS f s i=true:=by
  intro b y hy i x hx;have hb:=(Le hy).1;have hm:(x,i)∈y.code.zipIdx:=by
   rw[List.mem_zipIdx_iff_getElem?];exact hx
  have h1:=ha y (Ll hy) (x,i) hm;simp only[Bool.and_eq_true,Bool.not_eq_true',List.all_eq_true] at h1;exact⟨by omega,h1.1.1,h1.1.2,h1.2⟩
 intro r hr;simp only[Yv,List.mem_cons,List.not_mem_nil,or_false] at hr
 rcases hr with rfl|rfl|rfl|rfl
 ·show V7 f (Uq f)=none;refine Ja fun b _ y hy=>K9 fun i _ x hx=>?_
  obtain⟨_,_,h3,_⟩:=key b y hy i x hx;unfold Uq;rw[h3,Bool.and_false]
 ·show Xw f=none;unfold Xw;rw[Option.map_eq_none_iff,List.find?_eq_none];intro k hk;have hk0:k=0:=by rw[List.mem_range] at hk;omega
  subst hk0;have:Path (Zv f.bk9) 0 0:=.refl;simp[J1,this]
 ·show V7 f (Zcz f)=none;refine Ja fun b _ y hy=>K9 fun i _ x hx=>?_
  obtain⟨_,h2,_,_⟩:=key b y hy i x hx;unfold Zcz;rw[h2];rfl
 ·show V7 f (X6 f)=none;refine Ja fun b _ y hy=>K9 fun i _ x hx=>?_
  obtain⟨rfl,h2,_,h4⟩:=key b y hy i x hx;unfold X6;rw[if_neg (by simpa using h2),List.any_eq_false];intro s hs;rw[atS_at (h4 s hs)];simp
theorem Zkk {p:GProg} (h0:(Yc p).1=0) (h1:p.all Zde=true) (hv:Kc p<=65536) (hf:Jj p<=65536):Y5 p=(0,(0,0,0)):=by
 rw[Zeh h0 (fun r hr=>Zja fun j hj f hf=>?_),if_neg (by omega)];exact Zhz (List.all_eq_true.1 h1 f (Ll hf)) r hr

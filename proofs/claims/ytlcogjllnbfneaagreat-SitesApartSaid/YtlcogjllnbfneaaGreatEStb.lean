/- Plain laws of what package sites numbers. No condition. -/
import Derived.Test.YtlcogjllnbfneaaGreatESta
import Derived.Test.YtlcogjllnbfneaaGreatESno
set_option linter.all false
namespace Go.Proofs.YtlcogjllnbfneaaGreat
structure SLe (s t:SSt):Prop where
 vars:s.vars<+:t.vars
 pl:s.pl<+:t.pl
 sites:s.sites<+:t.sites
 of:s.of<+:t.of
theorem SLe.refl (s:SSt):SLe s s:=⟨List.prefix_rfl,List.prefix_rfl,List.prefix_rfl,List.prefix_rfl⟩
theorem SLe.trans {a b c:SSt} (h:SLe a b) (k:SLe b c):SLe a c:=⟨h.vars.trans k.vars,h.pl.trans k.pl,h.sites.trans k.sites,h.of.trans k.of⟩
theorem Zkq {κ:Type} [BEq κ] (l:List κ) (k:κ):l<+:Ub l k:=by
 unfold Ub
 split
 ·exact List.prefix_rfl
 ·exact List.prefix_append _ _
theorem SSt.le_var (s:SSt) (k:Nat×Str):SLe s (s.var k):=⟨Zkq _ _,List.prefix_rfl,List.prefix_rfl,List.prefix_rfl⟩
theorem SSt.le_pt (s:SSt) (q:GPt):SLe s (s.pt q):=⟨List.prefix_rfl,List.prefix_append _ _,List.prefix_rfl,List.prefix_rfl⟩
theorem SSt.le_site (s:SSt) (q:GPt) (n:Nat):SLe s (s.site q n):=⟨List.prefix_rfl,List.prefix_rfl,List.prefix_append _ _,List.prefix_rfl⟩
theorem SSt.le_fld (s:SSt) (j:Nat):SLe s (s.fld j):=⟨List.prefix_rfl,List.prefix_rfl,List.prefix_rfl,List.prefix_append _ _⟩
def SSt.ins1 (s:SSt) (i:Nat) (q:GPt×GIns):SSt:=if q.2.dst.isEmpty then s.pt (i,q.1.2.1,q.1.2.2) else (s.pt (i,q.1.2.1,q.1.2.2)).var (i,q.2.dst)
theorem SSt.ins_eq (s:SSt) (i:Nat) (q:GPt×GIns):s.ins i q=if Xe q.2 then ((s.ins1 i q).site (i,q.1.2.1,q.1.2.2) q.2.n.toNat).fld q.2.n.toNat else s.ins1 i q:=rfl
theorem SSt.le_ins1 (s:SSt) (i:Nat) (q:GPt×GIns):SLe s (s.ins1 i q):=by
 unfold SSt.ins1
 split
 ·exact s.le_pt _
 ·exact (s.le_pt _).trans (SSt.le_var _ _)
theorem SSt.le_ins (s:SSt) (i:Nat) (q:GPt×GIns):SLe s (s.ins i q):=by
 rw[SSt.ins_eq]
 split
 ·exact ((s.le_ins1 i q).trans (SSt.le_site _ _ _)).trans (SSt.le_fld _ _)
 ·exact s.le_ins1 i q
theorem SSt.le_par (i:Nat):∀ (l:List Str) (s:SSt),SLe s (s.par i l)
 |[],s=>.refl s
 |t::l,s=>(s.le_var (i,t)).trans (SSt.le_par i l (s.var (i,t)))
theorem SSt.le_code (i:Nat):∀ (l:List (GPt×GIns)) (s:SSt),SLe s (s.code i l)
 |[],s=>.refl s
 |q::l,s=>(s.le_ins i q).trans (SSt.le_code i l (s.ins i q))
theorem SSt.par_append (s:SSt) (i:Nat) (l l':List Str):s.par i (l++l')=(s.par i l).par i l':=by simp[SSt.par,List.foldl_append]
theorem SSt.par_le (s:SSt) (i:Nat) {l l':List Str} (h:l<+:l'):SLe (s.par i l) (s.par i l'):=by
 obtain⟨r,rfl⟩:=h;rw[SSt.par_append];exact SSt.le_par i r _
theorem Jd {p:GProg} {k:Nat}:∀ {k':Nat},k<=k'->k'<=p.length->SLe (Zh p k) (Zh p k')
 |0,h,_=>by
  obtain rfl:k=0:=by omega
  exact .refl _
 |k'+1,h,hl=>by
  by_cases e:k=k'+1
  ·subst e;exact .refl _
  ·have hk:p[k']?=some p[k']:=Ld (by omega);rw[Xf hk];exact (Jd (show k<=k' by omega) (by omega)).trans ((SSt.le_par _ _ _).trans (SSt.le_code _ _ _))
def atF (i:Nat) (q:GPt×GIns):GPt:=(i,q.1.2.1,q.1.2.2)
theorem SSt.ins1_pl (s:SSt) (i:Nat) (q:GPt×GIns):(s.ins1 i q).pl=s.pl++[atF i q]:=by unfold SSt.ins1;split<;>rfl
theorem SSt.ins_pl (s:SSt) (i:Nat) (q:GPt×GIns):(s.ins i q).pl=s.pl++[atF i q]:=by
 rw[SSt.ins_eq,<-SSt.ins1_pl]
 split<;>rfl
theorem SSt.code_pl (i:Nat):∀ (l:List (GPt×GIns)) (s:SSt),(s.code i l).pl=s.pl++l.map (atF i)
 |[],s=>by simp[SSt.code]
 |q::l,s=>by
  show ((s.ins i q).code i l).pl=_;rw[SSt.code_pl i l (s.ins i q),SSt.ins_pl];simp
theorem SSt.par_pl (i:Nat):∀ (l:List Str) (s:SSt),(s.par i l).pl=s.pl
 |[],s=>rfl
 |t::l,s=>SSt.par_pl i l (s.var (i,t))
theorem Zdw (i j b:Nat):∀ (l:List GIns) (k:Nat),(Yr j b k l).map (atF i)=(Yr i b k l).map (·.1)
 |[],_=>rfl
 |x::l,k=>by simp[Yr,atF,Zdw i j b l (k+1)]
theorem Zal (i j:Nat):∀ (l:List GBlk) (b:Nat),(Z8 j b l).map (atF i)=(Z8 i b l).map (·.1)
 |[],_=>rfl
 |x::l,b=>by simp[Z8,Zdw i j b,Zal i j l (b+1)]
theorem pts_one (f:GFun):pts [f]=Z8 0 0 f.bk9:=by simp[pts,Xb]
theorem Zeb (i:Nat) (f:GFun):(pts [f]).map (atF i)=(Z8 i 0 f.bk9).map (·.1):=by rw[pts_one,Zal]
theorem Zdx {p:GProg} {i:Nat} {f:GFun} (h:p[i]?=some f):X7 p (i+1)=X7 p i++Z8 i 0 f.bk9:=by
 rw[Jy h (Nat.lt_irrefl _)];simp[Vj]
theorem Je {p:GProg}:∀ {k:Nat},k<=p.length->(Zh p k).pl=(X7 p k).map (·.1)
 |0,_=>by rw[Vm,Kf];rfl
 |k+1,h=>by
  have hk:p[k]?=some p[k]:=Ld (by omega);rw[Xf hk,SSt.fn,SSt.code_pl,SSt.par_pl,Je (by omega),Zeb,Zdx hk,List.map_append]
theorem Zmz (p:GProg):(Zh p p.length).pl=(pts p).map (·.1):=by rw[Je (Nat.le_refl _),Zbb (Nat.lt_irrefl _)]
theorem Zam (f b:Nat):∀ (l:List GIns) (k:Nat),((Yr f b k l).map (·.1)).Nodup
 |[],_=>by simp[Yr]
 |x::l,k=>by
  rw[Yr,List.map_cons,List.nodup_cons];refine⟨fun h=>?_,Zam f b l (k+1)⟩;obtain⟨q,hq,e⟩:=List.mem_map.1 h;obtain⟨pt,x'⟩:=q;obtain⟨j,_,rfl⟩:=Vg hq;simp only[Prod.mk.injEq] at e;omega
theorem J9 {α:Type} {l l':List α} (h:l.Nodup) (h':l'.Nodup) (hd:∀ x∈l,x∉l'):(l++l').Nodup:=by
 rw[List.nodup_append];exact⟨h,h',fun a ha b hb e=>hd a ha (e▸hb)⟩
theorem Jk (f:Nat):∀ (l:List GBlk) (b:Nat),((Z8 f b l).map (·.1)).Nodup
 |[],_=>by simp[Z8]
 |x::l,b=>by
  rw[Z8,List.map_append];refine J9 (Zam f b x.code 0) (Jk f l (b+1)) fun pt h1 h2=>?_
  obtain⟨⟨_,_⟩,hq,rfl⟩:=List.mem_map.1 h1;obtain⟨j,_,rfl⟩:=Vg hq;obtain⟨⟨_,_⟩,hq2,e⟩:=List.mem_map.1 h2;obtain⟨j2,y,k,_,_,rfl⟩:=Xz hq2;simp only[Prod.mk.injEq] at e;omega
theorem Zan:∀ (l:GProg) (i:Nat),((Xb i l).map (·.1)).Nodup
 |[],_=>by simp[Xb]
 |x::l,i=>by
  rw[Xb,List.map_append];refine J9 (Jk i x.bk9 0) (Zan l (i+1)) fun pt h1 h2=>?_
  obtain⟨⟨_,_⟩,hq,rfl⟩:=List.mem_map.1 h1;obtain⟨j,_,_,_,_,rfl⟩:=Xz hq;obtain⟨⟨_,_⟩,hq2,e⟩:=List.mem_map.1 h2;obtain⟨j2,f,b,y,k,_,_,_,rfl⟩:=Q5 hq2;simp only[Prod.mk.injEq] at e;omega
theorem Zta (p:GProg):((pts p).map (·.1)).Nodup:=Zan p 0
structure SLim (s:SSt) (m:Nat):Prop where
 vars:s.vars.length<=m+s.pl.length
 sites:s.sites.length<=s.pl.length
 of:s.of.length<=64*s.pl.length
theorem Zfd {κ:Type} [BEq κ] (l:List κ) (k:κ):(Ub l k).length<=l.length+1:=by
 unfold Ub
 split
 ·omega
 ·simp
theorem SLim.var {s:SSt} {m:Nat} (h:SLim s m) (k:Nat×Str):SLim (s.var k) (m+1):=
 ⟨by have:=Zfd s.vars k;have:=h.vars;simp only[SSt.var];omega,h.sites,h.of⟩
theorem SLim.par (i:Nat):∀ (l:List Str) {s:SSt} {m:Nat},SLim s m->SLim (s.par i l) (m+l.length)
 |[],_,_,h=>h
 |t::l,s,m,h=>by
  have:=SLim.par i l (h.var (i,t));rw[show m+(t::l).length=m+1+l.length by simp;omega];exact this
theorem SLim.ins1 {s:SSt} {m:Nat} (h:SLim s m) (i:Nat) (q:GPt×GIns):(s.ins1 i q).vars.length<=m+(s.pl.length+1)/\(s.ins1 i q).sites=s.sites/\(s.ins1 i q).of=s.of:=by
 unfold SSt.ins1
 split
 ·exact⟨by have:=h.vars;simp only[SSt.pt];omega,rfl,rfl⟩
 ·exact⟨by have:=Zfd s.vars (i,q.2.dst);have:=h.vars;simp only[SSt.pt,SSt.var];omega,rfl,rfl⟩
theorem SLim.ins {s:SSt} {m:Nat} (h:SLim s m) (i:Nat) {q:GPt×GIns} (hq:Xe q.2=true->q.2.n<=64):SLim (s.ins i q) m:=by
 obtain⟨h1,h2,h3⟩:=h.ins1 i q;have hp:(s.ins i q).pl.length=s.pl.length+1:=by rw[SSt.ins_pl];simp
 have h5:=h.sites;have h6:=h.of;rw[SSt.ins_eq] at hp ⊢
 split
 ·rename_i hs
  rw[if_pos hs] at hp;have:=hq hs;exact⟨by rw[hp];exact h1,by rw[hp];simp only[SSt.site,SSt.fld,List.length_append,h2,List.length_cons,List.length_nil];omega,by rw[hp];simp only[SSt.site,SSt.fld,List.length_append,List.length_replicate,h3];omega⟩
 ·rename_i hs
  rw[if_neg hs] at hp;exact⟨by rw[hp];exact h1,by rw[hp,h2];omega,by rw[hp,h3];omega⟩
theorem SLim.code (i:Nat):∀ (l:List (GPt×GIns)) {s:SSt} {m:Nat},SLim s m->(∀ q∈l,Xe q.2=true->q.2.n<=64)->SLim (s.code i l) m
 |[],_,_,h,_=>h
 |q::l,s,m,h,hq=>SLim.code i l (h.ins i (hq q (by simp))) fun q hm=>hq q (by simp[hm])
theorem NOk.site {p:GProg} (h:NOk p) {pt:GPt} {x:GIns} (hm:(pt,x)∈pts p) (hs:Xe x=true):1<=x.n/\x.n<=64:=by
 obtain⟨f,y,hf,hy,hx⟩:=Ut hm;have hb:=h.ins (i:=pt.1) (b:=pt.2.1) (k:=pt.2.2) hf hy hx;simp only[Xe,Bool.or_eq_true,beq_iff_eq] at hs;simp only[Zm,Y6,if_pos hs,Bool.or_eq_false_iff,decide_eq_false_iff_not] at hb;omega
theorem Kb {p:GProg} {i:Nat} {f:GFun} (hf:p[i]?=some f) {pt:GPt} {x:GIns} (h:(pt,x)∈pts [f]):((i,pt.2.1,pt.2.2),x)∈pts p:=by
 obtain⟨f',y,h1,h2,h3⟩:=Ut h;have h0:=(Le h1).1;have h4:pt.1=0:=by simp at h0;exact h0
 rw[h4] at h1;simp only[List.getElem?_cons_zero,Option.some.injEq] at h1;subst h1;exact Zbu hf h2 h3
theorem J4 {p:GProg} (h:NOk p):∀ {k:Nat},k<=p.length->SLim (Zh p k) (8*k)
 |0,_=>by rw[Vm];exact⟨Ln _,Ln _,Ln _⟩
 |k+1,hk=>by
  have hf:p[k]?=some p[k]:=Ld (by omega);rw[Xf hf];have h1:=SLim.par k p[k].params (J4 h (show k<=p.length by omega));have h2:=h.params hf;refine SLim.code k _ ⟨?_,h1.sites,h1.of⟩ fun q hq hs=>(h.site (Kb hf (pt:=q.1) (x:=q.2) hq) hs).2
  have:=h1.vars;omega
theorem Kq (p:GProg) (k:Nat):X7 p k<+:pts p:=by
 refine⟨Xb (0+(p.take k).length) (p.drop k),?_⟩;rw[X7,<-Ul,List.take_append_drop,pts]
theorem NOk.lens {p:GProg} (h:NOk p) {k:Nat} (hk:k<=p.length) {T:SSt} (hT:SLe T (Zh p k)):T.vars.length<=5000/\T.pl.length<=4096/\T.sites.length<=4096/\T.of.length<=262144:=by
 have h1:=hT.vars.length_le;have h2:=hT.pl.length_le;have h3:=hT.sites.length_le;have h4:=hT.of.length_le;have hl:=J4 h hk;have h5:=hl.vars;have h6:=hl.sites;have h7:=hl.of;have h8:(Zh p k).pl.length<=4096:=by
  rw[Je hk,List.length_map];have:=(Kq p k).length_le;have:=h.codes;omega
 have h9:=h.funcs;omega
theorem Zbo (p:GProg):∀ {k:Nat},k<=p.length->(Zy p k).length<=k
 |0,_=>by rw[Km];exact Lf _
 |k+1,h=>by
  have hf:p[k]?=some p[k]:=Ld (by omega);rw[Uz hf];have:=Zfd (Zy p k) p[k].name;have:=Zbo p (show k<=p.length by omega);omega
theorem Zio {p:GProg} {k:Nat} {f:GFun} (hf:p[k]?=some f) (j:Nat):SLe ((Zh p k).par k (f.params.take j)) (Zh p (k+1)):=by
 rw[Xf hf];exact (SSt.par_le _ k (List.take_prefix _ _)).trans (SSt.le_code k _ _)
theorem Zms {p:GProg} (h:NOk p) {k:Nat} {f:GFun} (hf:p[k]?=some f):(pts [f]).length<=4096:=by
 have h1:=congrArg List.length (Zeb k f);simp only[List.length_map] at h1;have h2:=congrArg List.length (Zdx hf);rw[List.length_append] at h2;have h3:=(Kq p (k+1)).length_le;have h4:=h.codes;omega
theorem NOk.lensR {p:GProg} (h:NOk p) {k:Nat} {f:GFun} (hf:p[k]?=some f) {l:List (GPt×GIns)} (hl:∀ q∈l,q∈pts [f]) (hn:l.length<=(pts [f]).length) {T:SSt} (hT:T=((Zh p k).par k f.params).code k l):
  T.vars.length<=20000/\T.pl.length<=8192/\T.sites.length<=8192/\T.of.length<=524288:=by
 subst hT;have hk:=(Le hf).1;have h1:=SLim.par k f.params (J4 h (show k<=p.length by omega));have h2:=h.params hf;have h3:=SLim.code k l h1 (fun q hq hs=>(h.site (Kb hf (pt:=q.1) (x:=q.2) (hl q hq)) hs).2);have h4:(((Zh p k).par k f.params).code k l).pl.length<=8192:=by
  rw[SSt.code_pl,List.length_append,List.length_map,SSt.par_pl,Je (show k<=p.length by omega),List.length_map];have:=(Kq p k).length_le;have:=h.codes;have:=Zms h hf;omega
 have h5:=h3.vars;have h6:=h3.sites;have h7:=h3.of;have h8:=h.funcs;omega
theorem Zif {κ β:Type} [BEq κ] [LawfulBEq κ]:∀ (l:List (κ×β)) (k:κ),(∀ x∈l,x.1≠k)->Z6 l k=none
 |[],_,_=>rfl
 |(a,b)::l,k,h=>by
  have h1:(k == a)=false:=beq_eq_false_iff_ne.2 fun e=>h (a,b) (by simp) e.symm
  rw[Z6,h1];exact Zif l k fun x hx=>h x (by simp[hx])
theorem Ztr {κ β:Type} [BEq κ] [LawfulBEq κ] {l:List (κ×β)} {k:κ} (h:∀ x∈l,x.1≠k) (v:β):Yz l k v=l++[(k,v)]:=by
 have h1:Va l k 0=none:=by
  have:=Qq l k 0;rw[Zif l k h] at this
  cases hc:Va l k 0 with
  |none=>rfl
  |some x=>rw[hc] at this;cases this
 exact J7 h1 v
structure SWf (s:SSt):Prop where
 vn:s.vars.Nodup
 at_:s.at_=s.sites.zipIdx.map fun x=>(x.1.1,x.2)
 sn:(s.sites.map (·.1)).Nodup
 sp:∀ x∈s.sites,x.1∈s.pl
 bs:∀ j (x:GPt×Nat×Nat),s.sites[j]?=some x->∀ t,t<x.2.2->s.of[x.2.1+t]?=some j
 fs:∀ o j,s.of[o]?=some j->∃ x:GPt×Nat×Nat,s.sites[j]?=some x/\x.2.1<=o/\o<x.2.1+x.2.2
theorem swf0:SWf sst0:=⟨List.nodup_nil,rfl,List.nodup_nil,fun _ h=>(by cases h),fun _ _ h=>(by simp[sst0] at h),fun _ _ h=>(by simp[sst0] at h)⟩
theorem Zpa {κ:Type} [BEq κ] [LawfulBEq κ] {l:List κ} (h:l.Nodup) (k:κ):(Ub l k).Nodup:=by
 unfold Ub
 split
 ·exact h
 ·rename_i hc
  refine J9 h (by simp) fun x hx e=>hc ?_
  simp only[List.mem_singleton] at e;subst e;exact List.contains_iff_mem.2 hx
theorem SWf.var {s:SSt} (h:SWf s) (k:Nat×Str):SWf (s.var k):=⟨Zpa h.vn k,h.at_,h.sn,h.sp,h.bs,h.fs⟩
theorem SWf.pt {s:SSt} (h:SWf s) (q:GPt):SWf (s.pt q):=⟨h.vn,h.at_,h.sn,fun x hx=>List.mem_append_left _ (h.sp x hx),h.bs,h.fs⟩
theorem SWf.par (i:Nat):∀ (l:List Str) {s:SSt},SWf s->SWf (s.par i l)
 |[],_,h=>h
 |t::l,_,h=>SWf.par i l (h.var (i,t))
theorem SWf.site {s:SSt} (h:SWf s) {q:GPt} {n:Nat} (hp:q∈s.pl) (hq:∀ x∈s.sites,x.1≠q):SWf ((s.site q n).fld n):=by
 have hkeys:∀ x∈s.at_,x.1≠q:=by
  rw[h.at_];intro x hx;obtain⟨y,hy,rfl⟩:=List.mem_map.1 hx;exact hq y.1 (List.fst_mem_of_mem_zipIdx hy)
 have hlen:(s.site q n).sites.length-1=s.sites.length:=by simp[SSt.site]
 have hof:((s.site q n).fld n).of=s.of++List.replicate n s.sites.length:=by
  show (s.site q n).of++List.replicate n ((s.site q n).sites.length-1)=_;rw[hlen];rfl
 have hsi:((s.site q n).fld n).sites=s.sites++[(q,s.of.length,n)]:=rfl;refine⟨h.vn,?_,?_,?_,?_,?_⟩
 ·show Yz s.at_ q s.sites.length=_;rw[Ztr hkeys,hsi,List.zipIdx_append,List.map_append,h.at_];simp
 ·rw[hsi,List.map_append];refine J9 h.sn (by simp) fun x hx e=>?_
  simp only[List.map_cons,List.map_nil,List.mem_singleton] at e;obtain⟨y,hy,rfl⟩:=List.mem_map.1 hx;exact hq y hy e
 ·rw[hsi];intro x hx
  rcases List.mem_append.1 hx with hx|hx
  ·exact h.sp x hx
  ·simp only[List.mem_singleton] at hx;subst hx;exact hp
 ·intro j x hj t ht;rw[hsi] at hj;rw[hof]
  by_cases hjl:j<s.sites.length
  ·rw[List.getElem?_append_left hjl] at hj;have:=h.bs j x hj t ht;rw[List.getElem?_append_left (List.getElem?_eq_some_iff.1 this).1];exact this
  ·rw[List.getElem?_append_right (by omega)] at hj;have hj0:j=s.sites.length:=by
    rcases Nat.lt_or_ge (j-s.sites.length) 1 with h1|h1
    ·omega
    ·rw[List.getElem?_eq_none (by simpa using h1)] at hj;cases hj
   subst hj0;simp at hj;subst hj;simp only at ht ⊢;rw[List.getElem?_append_right (by omega),List.getElem?_replicate,if_pos (by omega)]
 ·intro o j ho;rw[hof] at ho;rw[hsi]
  by_cases hol:o<s.of.length
  ·rw[List.getElem?_append_left hol] at ho;obtain⟨x,hx,h1,h2⟩:=h.fs o j ho;exact⟨x,by rw[List.getElem?_append_left (List.getElem?_eq_some_iff.1 hx).1];exact hx,h1,h2⟩
  ·rw[List.getElem?_append_right (by omega),List.getElem?_replicate] at ho
   split at ho
   ·simp only[Option.some.injEq] at ho;subst ho;exact⟨(q,s.of.length,n),by simp,by simp only;omega,by simp only;omega⟩
   ·cases ho
theorem SWf.ins {s:SSt} (h:SWf s) (i:Nat) (q:GPt×GIns) (hq:atF i q∉s.pl):SWf (s.ins i q):=by
 have h1:SWf (s.ins1 i q):=by
  unfold SSt.ins1
  split
  ·exact h.pt _
  ·exact (h.pt _).var _
 have h2:(s.ins1 i q).sites=s.sites:=by unfold SSt.ins1;split<;>rfl
 rw[SSt.ins_eq]
 split
 ·refine h1.site (q:=atF i q) (by rw[SSt.ins1_pl];simp) fun x hx e=>hq ?_
  rw[h2] at hx;exact e▸h.sp x hx
 ·exact h1
theorem SWf.code (i:Nat):∀ (l:List (GPt×GIns)) {s:SSt},SWf s->(s.pl++l.map (atF i)).Nodup->SWf (s.code i l)
 |[],_,h,_=>h
 |q::l,s,h,hn=>by
  refine SWf.code i l (h.ins i q fun hm=>?_) ?_
  ·rw[List.map_cons,List.nodup_append] at hn;exact hn.2.2 _ hm _ (by simp) rfl
  ·rw[SSt.ins_pl];simpa using hn
theorem Jf (p:GProg):∀ {k:Nat},k<=p.length->SWf (Zh p k)
 |0,_=>by rw[Vm];exact swf0
 |k+1,hk=>by
  have hf:p[k]?=some p[k]:=Ld (by omega);have hpre:(Zh p (k+1)).pl<+:(Zh p p.length).pl:=(Jd hk (Lf _)).pl;rw[Zmz] at hpre;have hnd:=hpre.sublist.nodup (Zta p);rw[Xf hf] at hnd ⊢;refine SWf.code k _ (SWf.par k _ (Jf p (by omega))) ?_;rw[SSt.fn,SSt.code_pl] at hnd;exact hnd

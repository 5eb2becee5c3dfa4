/- A map of package sites that is made. Conditions in it. -/
import Derived.Test.YtlcogjllnbfneaaGreatEStb
import Derived.Test.YtlcogjllnbfneaaGreatEPrg
import Derived.Test.YtlcogjllnbfneaaGreatESnp
import Derived.Test.YtlcogjllnbfneaaGreatEItq
set_option maxHeartbeats 8000000
set_option maxRecDepth 100000
set_option linter.all false
namespace Go.Proofs.YtlcogjllnbfneaaGreat
open Lib(hid)
section
open Go.RowKit Go.Shelf
structure MapL (lo:Nat) (w:World) (m:Nat) (p:GProg):Prop where
 ok:NOk p
 lay:∃ (base:Nat) (a:MAd) (r:Rw) (A:Option Addr) (c:Nat),a.m=m/\MapI w base a.m a.vt a.vM a.ft a.fM a.mb (.slice A p.length c) r.vV r.vF r.vS r.vO r.vP (Zh p p.length) (Zy p p.length)/\
  base<=w.heap.size/\(∀ n,MQ a r n->lo<=n)/\∀ W B',SupI lo w W B'->ProgAt W B' (.slice A p.length c) p
theorem MapL.chg {lo:Nat} {w w':World} {m:Nat} {p:GProg} {Q:Nat->Prop} (h:MapL lo w m p) (hg:Chg Q w w') (hq:∀ n,lo<=n->n<w.heap.size->¬ Q n):MapL lo w' m p where
 ok:=h.ok
 lay:=by
  obtain⟨base,a,r,A,c,e,hm,hb,hl,hp⟩:=h.lay;exact⟨base,a,r,A,c,e,hm.chg hg (fun n hn=>hq n (hl n hn) (hm.lt hn)),Nat.le_trans hb hg.size,hl,fun W B' hs=>hp W B' (hs.chg hg hq)⟩
theorem MapL.grown {lo:Nat} {w w':World} {m:Nat} {p:GProg} (h:MapL lo w m p) (hg:w.grownBy w' none):MapL lo w' m p:=
 h.chg (Chg.grown (Q:=fun _=>False) hg (fun r e=>by cases e)) (fun _ _ _ e=>e)
structure MapO (w:World) (m:Nat) (p:GProg) (A:Option Addr) (c vt ft mb:Nat) (AS:Option Addr) (cS:Nat) (AO:Option Addr) (cO:Nat) (AP:Option Addr) (cP:Nat):Prop where
 ok:NOk p
 blk:w.heap[m]?=some (.cells #[.slice A p.length c,.pointer (some ⟨vt,0,none⟩),.pointer (some ⟨ft,0,none⟩),.slice AS (Zh p p.length).sites.length cS,.map (some mb),.slice AO (Zh p p.length).of.length cO,.slice AP (Zh p p.length).pl.length cP] 112 (0,0))
 prog:ProgAt w w.heap.size (.slice A p.length c) p
 vars:∃ base vM vV,TabL w base vt vM vV (Zh p p.length).vars/\base<=w.heap.size
 funs:∃ base fM vF,TabS w base ft fM vF (Zy p p.length)/\base<=w.heap.size
 sites:∃ base,w.ownsRow base 119 5 (.slice AS (Zh p p.length).sites.length cS) (Zh p p.length).sites.length ((Zh p p.length).sites.flatMap Qc)
 by_:w.heap[mb]?=some (Z7 Ve Z4 (Zh p p.length).at_)
 of:∃ base,w.ownsRow base 3 1 (.slice AO (Zh p p.length).of.length cO) (Zh p p.length).of.length ((Zh p p.length).of.map Z4)
 pts:∃ base,w.ownsRow base 41 3 (.slice AP (Zh p p.length).pl.length cP) (Zh p p.length).pl.length ((Zh p p.length).pl.flatMap Kk)
theorem MapL.open_ {lo:Nat} {w:World} {m:Nat} {p:GProg} (h:MapL lo w m p):∃ A c vt ft mb AS cS AO cO AP cP,MapO w m p A c vt ft mb AS cS AO cO AP cP:=by
 obtain⟨base,a,r,A,c,rfl,hm,hb,hl,hp⟩:=h.lay;obtain⟨m0,vt,vM,ft,fM,mb⟩:=a;obtain⟨vV,vF,vS,vO,vP⟩:=r;simp only at hm;obtain⟨AS,cS,rfl,-,-,-,-⟩:=Zz hm.sites;obtain⟨AO,cO,rfl,-,-,-,-⟩:=Zz hm.of;obtain⟨AP,cP,rfl,-,-,-,-⟩:=Zz hm.pts;exact⟨A,c,vt,ft,mb,AS,cS,AO,cO,AP,cP,h.ok,hm.blk,hp w _ (SupI.refl _ _),⟨base,vM,vV,hm.vars,hb⟩,⟨base,fM,vF,hm.funs,hb⟩,⟨base,hm.sites⟩,hm.by_,⟨base,hm.of⟩,⟨base,hm.pts⟩⟩
theorem MapO.lens {w:World} {m:Nat} {p:GProg} {A:Option Addr} {c vt ft mb:Nat} {AS:Option Addr} {cS:Nat} {AO:Option Addr} {cO:Nat} {AP:Option Addr} {cP:Nat} (h:MapO w m p A c vt ft mb AS cS AO cO AP cP):
  (Zh p p.length).vars.length<=5000/\(Zh p p.length).pl.length<=4096/\(Zh p p.length).sites.length<=4096/\(Zh p p.length).of.length<=262144/\p.length<=64:=by
 obtain⟨h1,h2,h3,h4⟩:=h.ok.lens (Lf p.length) (SLe.refl _);exact⟨h1,h2,h3,h4,h.ok.funcs.2⟩
theorem MapO.siteC {w:World} {m:Nat} {p:GProg} {A:Option Addr} {c vt ft mb:Nat} {AS:Option Addr} {cS:Nat} {AO:Option Addr} {cO:Nat} {AP:Option Addr} {cP:Nat} (h:MapO w m p A c vt ft mb AS cS AO cO AP cP) {j:Nat} {x:GPt×Nat×Nat} (hx:(Zh p p.length).sites[j]?=some x):
  ∃ g,AS=some ⟨g,0,none⟩/\g<w.heap.size/\(Zh p p.length).sites.length<=cS/\cS<=maxLen/\w.cell? ⟨g,j*5,none⟩=some (.int .i64 x.1.1)/\w.cell? ⟨g,j*5+1,none⟩=some (.int .i64 x.1.2.1)/\w.cell? ⟨g,j*5+2,none⟩=some (.int .i64 x.1.2.2)/\w.cell? ⟨g,j*5+3,none⟩=some (.int .i64 x.2.1)/\w.cell? ⟨g,j*5+4,none⟩=some (.int .i64 x.2.2):=by
 obtain⟨base,ho⟩:=h.sites;have hj:=(Le hx).1;obtain⟨A',c',e,_,_,h0,h1⟩:=Zz ho;injection e with e _ e2
 subst e;subst e2
 cases AS with
 |none=>have:=(h0 rfl).1;omega
 |some a=>
  obtain⟨ha,-,-⟩:=h1 a rfl;rw[ha] at ho ⊢;obtain⟨_,h3,h4,h5,h6⟩:=Xm ho;have key:∀ t (u:Value),t<5->(Qc x)[t]?=some u->w.cell? ⟨a.block,j*5+t,none⟩=some u:=fun t u ht hu=>h6 _ _ ((Qz (f:=Qc) (sz:=5) (fun z _=>rfl) hx ht).trans hu)
  exact⟨a.block,rfl,h3,h4,h5,key 0 _ (by omega) rfl,key 1 _ (by omega) rfl,key 2 _ (by omega) rfl,key 3 _ (by omega) rfl,key 4 _ (by omega) rfl⟩
theorem MapO.ofC {w:World} {m:Nat} {p:GProg} {A:Option Addr} {c vt ft mb:Nat} {AS:Option Addr} {cS:Nat} {AO:Option Addr} {cO:Nat} {AP:Option Addr} {cP:Nat} (h:MapO w m p A c vt ft mb AS cS AO cO AP cP) {o j:Nat} (hx:(Zh p p.length).of[o]?=some j):
  ∃ g,AO=some ⟨g,0,none⟩/\g<w.heap.size/\(Zh p p.length).of.length<=cO/\cO<=maxLen/\w.cell? ⟨g,o,none⟩=some (.int .i64 j):=by
 obtain⟨base,ho⟩:=h.of;have hj:=(Le hx).1;obtain⟨A',c',e,_,_,h0,h1⟩:=Zz ho;injection e with e _ e2
 subst e;subst e2
 cases AO with
 |none=>have:=(h0 rfl).1;omega
 |some a=>
  obtain⟨ha,-,-⟩:=h1 a rfl;rw[ha] at ho ⊢;obtain⟨_,h3,h4,h5,h6⟩:=Xm ho;exact⟨a.block,rfl,h3,h4,h5,h6 o _ (by rw[List.getElem?_map,hx];rfl)⟩
end
section
open Go.RowKit Go.Shelf
variable {lo:Nat} {w:World} {m:Nat} {p:GProg}
theorem Zot (h:MapL lo w m p):Calls Tryz.prog 36 #[.pointer (some ⟨m,0,none⟩)] w fun e w'=>e=.returned (.int .i64 p.length)/\w=w':=by
 obtain⟨A,c,vt,ft,mb,AS,cS,AO,cO,AP,cP,h⟩:=h.open_;have c0:w.cell? ⟨m,0,none⟩=some (.slice A p.length c):=(Za h.blk).1 0;clear h;go_enter Tryz.func36,Tryz.ntmps36;go_wp2;go_ret;exact⟨rfl,rfl⟩
theorem Yeg (h:MapL lo w m p):Calls Tryz.prog 34 #[.pointer (some ⟨m,0,none⟩)] w fun e w'=>e=.returned (.int .i64 (Zh p p.length).of.length)/\w=w':=by
 obtain⟨A,c,vt,ft,mb,AS,cS,AO,cO,AP,cP,h⟩:=h.open_;have c5:w.cell? ⟨m,5,none⟩=some (.slice AO (Zh p p.length).of.length cO):=(Za h.blk).1 5;clear h;go_enter Tryz.func34,Tryz.ntmps34;go_wp2;go_ret;exact⟨rfl,rfl⟩
theorem Yhq (h:MapL lo w m p):Calls Tryz.prog 21 #[.pointer (some ⟨m,0,none⟩)] w fun e w'=>e=.returned (.int .i64 (Zh p p.length).vars.length)/\w=w':=by
 obtain⟨A,c,vt,ft,mb,AS,cS,AO,cO,AP,cP,h⟩:=h.open_;have c1:w.cell? ⟨m,1,none⟩=some (.pointer (some ⟨vt,0,none⟩)):=(Za h.blk).1 1;obtain⟨base,vM,vV,hT,hb⟩:=h.vars;have hL:=Yjh _ _ _ _ _ w hT;clear h hT hb;go_enter Tryz.func21,Tryz.ntmps21;go_wp2_with (go_at_call 69;refine hL.mono ?_;rintro e w1 ⟨rfl,rfl⟩);go_ret;exact⟨rfl,rfl⟩
theorem Yec (h:MapL lo w m p):Calls Tryz.prog 22 #[.pointer (some ⟨m,0,none⟩)] w fun e w'=>e=.returned (.int .i64 (((Zh p p.length).of.length:Int)+(p.length:Int)))/\w=w':=by
 have hF:=Yeg h;have hN:=Zot h;obtain⟨A,c,vt,ft,mb,AS,cS,AO,cO,AP,cP,h⟩:=h.open_;obtain⟨-,-,-,h4,h5⟩:=h.lens;have hwrap:IntKind.i64.wrap (((Zh p p.length).of.length:Int)+(p.length:Int))=((Zh p p.length).of.length:Int)+(p.length:Int):=by rw[IntKind.wrap_i64];omega
 clear h h4 h5;go_enter Tryz.func22,Tryz.ntmps22;go_wp2_with (first|(go_at_call 34;refine hF.mono ?_;rintro e w1 ⟨rfl,rfl⟩)|(go_at_call 36;refine hN.mono ?_;rintro e w1 ⟨rfl,rfl⟩));go_ret;exact⟨by first|rfl|simp[hwrap],rfl⟩
theorem Yiy (h:MapL lo w m p):Calls Tryz.prog 35 #[.pointer (some ⟨m,0,none⟩)] w fun e w'=>e=.returned (.int .i64 (((Zh p p.length).pl.length:Int)+((Zh p p.length).of.length:Int)))/\w.grownBy w' none:=by
 obtain⟨A,c,vt,ft,mb,AS,cS,AO,cO,AP,cP,h⟩:=h.open_;obtain⟨-,h2,-,h4,-⟩:=h.lens;have hwrap:IntKind.i64.wrap (((Zh p p.length).pl.length:Int)+((Zh p p.length).of.length:Int))=((Zh p p.length).pl.length:Int)+((Zh p p.length).of.length:Int):=by rw[IntKind.wrap_i64];omega
 have c5:w.cell? ⟨m,5,none⟩=some (.slice AO (Zh p p.length).of.length cO):=(Za h.blk).1 5;have c6:w.cell? ⟨m,6,none⟩=some (.slice AP (Zh p p.length).pl.length cP):=(Za h.blk).1 6;clear h h2 h4;go_enter Tryz.func35,Tryz.ntmps35;go_upto_region 3 with (fail)
 go_quiet (fail);go_wp2;go_ret;exact⟨by first|rfl|simp[hwrap],Zg (Lb w none) nq⟩
theorem Zaz (h:MapL lo w m p) (f:Int):Calls Tryz.prog 67 #[.pointer (some ⟨m,0,none⟩),.int .i64 f] w fun e w'=>e=.returned (.bool (decide (0<=f/\f<p.length)))/\w=w':=by
 have hN:=Zot h;clear h
 by_cases h0:0<=f
 ·go_enter Tryz.func67,Tryz.ntmps67;go_wp2_with (go_at_call 36;refine hN.mono ?_;rintro e w1 ⟨rfl,rfl⟩);go_ret;exact⟨by simp[h0],rfl⟩
 ·go_enter Tryz.func67,Tryz.ntmps67;go_wp2_with (go_at_call 36;refine hN.mono ?_;rintro e w1 ⟨rfl,rfl⟩);go_ret;exact⟨by simp;omega,rfl⟩
def Zag (p:GProg) (f:Int) (s:Str):Int×Bool:=if 0<=f/\f<p.length then (if s=Q2 then (-1,true) else if Zga (Zh p p.length).vars (f.toNat,s)=true then ((ixK (Zh p p.length).vars (f.toNat,s):Nat),true) else (-1,false)) else (-1,false)
theorem Zbw (h:MapL lo w m p) (f:Int) (s:Str):Calls Tryz.prog 24 #[.pointer (some ⟨m,0,none⟩),.int .i64 f,.string ⟨s.toArray⟩] w fun e w'=>e=.returned (.tuple #[.int .i64 (Zag p f s).1,.bool (Zag p f s).2])/\w.grownBy w' none:=by
 have hN:=Zaz h f;obtain⟨A,c,vt,ft,mb,AS,cS,AO,cO,AP,cP,h⟩:=h.open_;have c1:w.cell? ⟨m,1,none⟩=some (.pointer (some ⟨vt,0,none⟩)):=(Za h.blk).1 1;obtain⟨base,vM,vV,hT,hb⟩:=h.vars;clear h;unfold Zag
 by_cases hf:0<=f/\f<p.length
 ·rw[decide_eq_true hf] at hN;rw[if_pos hf];obtain⟨n,rfl⟩:∃ n:Nat,f=n:=⟨f.toNat,by omega⟩
  have hL:=Zrs _ _ _ _ _ (n,s) w hT hb;rw[Int.toNat_natCast];clear hT hb hf
  cases hs:s == [110,117,108,108] with
  |true=>
   rw[if_pos (show s=Q2 from eq_of_beq hs)];go_enter Tryz.func24,Tryz.ntmps24;go_wp2_with (first|(go_at_call 67;refine hN.mono ?_;rintro e w1 ⟨rfl,rfl⟩));go_ret2;exact⟨by first|rfl|simp,Lb _ _⟩
  |false=>
   rw[if_neg (show ¬ s=Q2 from fun e=>by rw[e] at hs;exact absurd hs (by decide))]
   cases hk:Zga (Zh p p.length).vars (n,s) with
   |true=>
    rw[hk] at hL;go_enter Tryz.func24,Tryz.ntmps24;go_wp2_with (first|(go_at_call 67;refine hN.mono ?_;rintro e w1 ⟨rfl,rfl⟩)|(go_at_call 71;refine hL.mono ?_;rintro e w2 ⟨rfl,hg⟩));go_ret2;exact⟨by first|rfl|simp,hg⟩
   |false=>
    rw[hk] at hL;go_enter Tryz.func24,Tryz.ntmps24;go_wp2_with (first|(go_at_call 67;refine hN.mono ?_;rintro e w1 ⟨rfl,rfl⟩)|(go_at_call 71;refine hL.mono ?_;rintro e w2 ⟨rfl,hg⟩));go_ret2;exact⟨by first|rfl|simp,hg⟩
 ·rw[decide_eq_false hf] at hN;rw[if_neg hf];clear hT hb hf;go_enter Tryz.func24,Tryz.ntmps24;go_wp2_with (first|(go_at_call 67;refine hN.mono ?_;rintro e w1 ⟨rfl,rfl⟩));go_ret2;exact⟨by first|rfl|simp,Lb _ _⟩
end
section
open Go.RowKit Go.Shelf
variable {lo:Nat} {w:World} {m:Nat} {p:GProg}
theorem MapO.ptsAt {w:World} {m:Nat} {p:GProg} {A:Option Addr} {c vt ft mb:Nat} {AS:Option Addr} {cS:Nat} {AO:Option Addr} {cO:Nat} {AP:Option Addr} {cP:Nat} (h:MapO w m p A c vt ft mb AS cS AO cO AP cP):SlAt ptR 3 w w.heap.size (.slice AP (Zh p p.length).pl.length cP) (Zh p p.length).pl:=by
 obtain⟨base,ho⟩:=h.pts;refine SlAt.of_ownN ho rfl (fun g e=>(ho.lt g e).2) fun g k x e hx=>?_
 obtain⟨A',c',e1,_,_,h0,h1⟩:=Zz ho;injection e1 with e1 _ e2
 subst e1;subst e2
 cases AP with
 |none=>simp[Value.ownBlock] at e
 |some a=>
  obtain⟨ha,-,-⟩:=h1 a rfl;rw[ha] at ho e;simp only[Value.ownBlock,Option.map_some,Option.some.injEq] at e;obtain⟨_,_,_,_,h6⟩:=Xm ho;have key:∀ t (u:Value),t<3->(Kk x)[t]?=some u->w.cell? ⟨a.block,k*3+t,none⟩=some u:=fun t u ht hu=>h6 _ _ ((Qz (f:=Kk) (sz:=3) (fun z _=>rfl) hx ht).trans hu)
  rw[<-e];exact⟨key 0 _ (by omega) rfl,key 1 _ (by omega) rfl,key 2 _ (by omega) rfl⟩
theorem Yig (h:MapL lo w m p):Calls Tryz.prog 18 #[.pointer (some ⟨m,0,none⟩)] w (Zbe ptR 3 41 w w.heap.size (Zh p p.length).pl):=by
 obtain⟨A,c,vt,ft,mb,AS,cS,AO,cO,AP,cP,h⟩:=h.open_;have hcl:=Yhs h.ptsAt (Lf _) (by have:=h.lens;omega);have c6:w.cell? ⟨m,6,none⟩=some (.slice AP (Zh p p.length).pl.length cP):=(Za h.blk).1 6;clear h;go_enter Tryz.func18,Tryz.ntmps18;go_wp2_with (go_at_call 66;refine hcl.mono ?_;rintro e w1 ⟨hb,A',c',rfl,h1,h2,h3⟩);go_ret;exact⟨hb,A',c',rfl,h1,h2,h3⟩
def Yhu (o base n:Nat) (k:Int):Int×Bool:=if k< -((o:Int)-base)\/(n:Int)-((o:Int)-base)<=k then (0,false) else (o+k,true)
theorem Yeu {p:GProg} {o j:Nat} {x:GPt×Nat×Nat} (ho:(Zh p p.length).of[o]?=some j) (hx:(Zh p p.length).sites[j]?=some x):x.2.1<=o/\o<x.2.1+x.2.2/\x.2.1+x.2.2<=(Zh p p.length).of.length:=by
 have hw:=Jf p (Lf p.length);obtain⟨y,hy,h1,h2⟩:=hw.fs o j ho;rw[hx] at hy;injection hy with hy
 subst hy;have h3:=hw.bs j x hx (x.2.2-1) (by omega);have h4:=(Le h3).1;exact⟨h1,h2,by omega⟩
theorem Yiz (h:MapL lo w m p) {o j:Nat} {x:GPt×Nat×Nat} (ho:(Zh p p.length).of[o]?=some j) (hx:(Zh p p.length).sites[j]?=some x) (k:Int):Calls Tryz.prog 31 #[.pointer (some ⟨m,0,none⟩),.int .i64 o,.int .i64 k] w fun e w'=>e=.returned (.tuple #[.int .i64 (Yhu o x.2.1 x.2.2 k).1,.bool (Yhu o x.2.1 x.2.2 k).2])/\w.grownBy w' none:=by
 have hF:=Yeg h;obtain⟨A,c,vt,ft,mb,AS,cS,AO,cO,AP,cP,h⟩:=h.open_;obtain⟨l1,l2,l3⟩:=Yeu ho hx;obtain⟨-,-,-,l4,-⟩:=h.lens;obtain⟨cm,-⟩:=Za h.blk;have c3:w.cell? ⟨m,3,none⟩=some (.slice AS (Zh p p.length).sites.length cS):=cm 3;have c5:w.cell? ⟨m,5,none⟩=some (.slice AO (Zh p p.length).of.length cO):=cm 5;obtain⟨g,rfl,hgl,h1,h2,s0,s1,s2,s3,s4⟩:=h.siteC hx;obtain⟨g2,rfl,hgl2,h3,h4,o1⟩:=h.ofC ho;have hj:=(Le hx).1;have hml:=Ze h.blk;obtain⟨nO,hnO⟩:∃ n,n=(Zh p p.length).of.length:=⟨_,rfl⟩
 obtain⟨nS,hnS⟩:∃ n,n=(Zh p p.length).sites.length:=⟨_,rfl⟩
 rw[<-hnO] at c5 hF h3 l3 l4;rw[<-hnS] at c3 h1 hj
 have HSg:=hid (show ∀ W':World,w.grownBy W' none->W'.cell? ⟨m,3,none⟩=some (.slice (some ⟨g,0,none⟩) nS cS)/\W'.cell? ⟨m,5,none⟩=some (.slice (some ⟨g2,0,none⟩) nO cO)/\W'.cell? ⟨g2,o,none⟩=some (.int .i64 j)/\
                    W'.cell? ⟨g,j*5,none⟩=some (.int .i64 x.1.1)/\W'.cell? ⟨g,j*5+1,none⟩=some (.int .i64 x.1.2.1)/\W'.cell? ⟨g,j*5+2,none⟩=some (.int .i64 x.1.2.2)/\W'.cell? ⟨g,j*5+3,none⟩=some (.int .i64 x.2.1)/\W'.cell? ⟨g,j*5+4,none⟩=some (.int .i64 x.2.2) from fun W' hg'=>by
                     have hb:=Zk hg'
                     exact⟨cur hb hml c3,cur hb hml c5,cur hb hgl2 o1,cur hb hgl s0,cur hb hgl s1,cur hb hgl s2,cur hb hgl s3,cur hb hgl s4⟩)
 have hs0:=HSg.out w.drew (Zf (Lb _ _));have hon:o<nO:=by omega
 clear h cm hx ho hnO hnS;obtain⟨R,hR⟩:∃ R,R=Yhu o x.2.1 x.2.2 k:=⟨_,rfl⟩
 rw[<-hR];have HR:=hid hR;clear hR;go_enter Tryz.func31,Tryz.ntmps31;go_upto_region 3 with (first|(go_at_call 34;refine hF.mono ?_;rintro e w1 ⟨rfl,rfl⟩))
 go_cut [8] (fun s8 wx=>s8=.pointer (some ⟨w.heap.size,0,none⟩)/\wx=(w.alloc (.cells #[.int .i64 x.1.1,.int .i64 x.1.2.1,.int .i64 x.1.2.2,.int .i64 x.2.1,.int .i64 x.2.2] 119)).drew)
 case first=>
  go_region_held3 (fun W'=>W'.cell? ⟨m,3,none⟩=some (.slice (some ⟨g,0,none⟩) nS cS)/\W'.cell? ⟨m,5,none⟩=some (.slice (some ⟨g2,0,none⟩) nO cO)/\W'.cell? ⟨g2,o,none⟩=some (.int .i64 j)/\
                   W'.cell? ⟨g,j*5,none⟩=some (.int .i64 x.1.1)/\W'.cell? ⟨g,j*5+1,none⟩=some (.int .i64 x.1.2.1)/\W'.cell? ⟨g,j*5+2,none⟩=some (.int .i64 x.1.2.2)/\W'.cell? ⟨g,j*5+3,none⟩=some (.int .i64 x.2.1)/\W'.cell? ⟨g,j*5+4,none⟩=some (.int .i64 x.2.2))
   (first|exact hs0|exact HSg.out _ (Zd (Zf (Lb _ _)) _)|exact HSg.out _ (Zi (Zi (Zi (Zi (Zi (Zd (Zf (Lb _ _)) _) (by simp) _) (by simp) _) (by simp) _) (by simp) _) (by simp) _)) (fail)
  all_goals (go_wp2_with fail;go_meet)
  all_goals exact⟨rfl,rfl⟩
 case rest=>
  obtain⟨rfl,hwc⟩:=hcut;have hbx:wc.heap[w.heap.size]?=some (.cells #[.int .i64 x.1.1,.int .i64 x.1.2.1,.int .i64 x.1.2.2,.int .i64 x.2.1,.int .i64 x.2.2] 119 (0,0)):=by rw[hwc];exact La w _
  have hgc:w.grownBy wc none:=by rw[hwc];exact Zf (Lc w _ none)
  have Hgc:=hid hgc;obtain⟨k9,-⟩:=Za hbx;have k3:=k9 3;have k4:=k9 4;have w1:IntKind.i64.wrap ((o:Int)-(x.2.1:Int))=(o:Int)-(x.2.1:Int):=by rw[IntKind.wrap_i64];omega
  have w2:IntKind.i64.wrap (-((o:Int)-(x.2.1:Int)))= -((o:Int)-(x.2.1:Int)):=by rw[IntKind.wrap_i64];omega
  have w3:IntKind.i64.wrap ((x.2.2:Int)-((o:Int)-(x.2.1:Int)))=(x.2.2:Int)-((o:Int)-(x.2.1:Int)):=by rw[IntKind.wrap_i64];omega
  clear hwc hbx hgc k9 hs0 HSg
  by_cases q1:k< -((o:Int)-(x.2.1:Int))
  ·have hR:=hid (show R=(0,false) by rw[HR.out];unfold Yhu;rw[if_pos (.inl q1)]);go_wp2;go_ret2;exact⟨by rw[hR.out];rfl,Hgc.out⟩
  ·by_cases q2:(x.2.2:Int)-((o:Int)-(x.2.1:Int))<=k
   ·have hR:=hid (show R=(0,false) by rw[HR.out];unfold Yhu;rw[if_pos (.inr q2)]);go_wp2;go_ret2;exact⟨by rw[hR.out];rfl,Hgc.out⟩
   ·have hR:=hid (show R=((o:Int)+k,true) by rw[HR.out];unfold Yhu;rw[if_neg (by omega)]);have w4:IntKind.i64.wrap ((o:Int)+k)=(o:Int)+k:=by rw[IntKind.wrap_i64];omega
    go_wp2;go_ret2;exact⟨by rw[hR.out];rfl,Hgc.out⟩
end
theorem Zjs {p:GProg} (h:NOk p):CpOk p:=by
 have hat:∀ f∈p,∃ i,p[i]?=some f:=fun f hf=>by
  obtain⟨i,hi,e⟩:=List.mem_iff_getElem.1 hf;exact⟨i,by rw[<-e];exact Ld hi⟩
 refine⟨fun e=>?_,by have:=h.funcs;omega,fun f hf=>?_,fun f hf=>?_,fun f hf y hy=>?_⟩
 ·have:=h.funcs;rw[e] at this;simp at this
 ·obtain⟨i,hi⟩:=hat f hf;have:=h.params hi;omega
 ·obtain⟨i,hi⟩:=hat f hf;have:=h.bk9 hi;exact⟨fun e=>by rw[e] at this;simp at this,by omega⟩
 ·obtain⟨i,hi⟩:=hat f hf;obtain⟨b,hb,e⟩:=List.mem_iff_getElem.1 hy;have hy':f.bk9[b]?=some y:=by rw[<-e];exact Ld hb
  have:=h.code hi hy';exact⟨(h.ends hi hy').1,by omega⟩
theorem Jt {p:GProg} (h:(Y5 p).1=0):NOk p:=(Zkb (by
 by_cases h0:(Yc p).1=0
 ·exact h0
 ·exact absurd (by rw[<-Qm h0];exact h) h0)).2
section
open Go.RowKit Go.Shelf
variable {lo:Nat} {w:World} {m:Nat} {p:GProg}
def insV (z:GIns) (va vl:Value):Value:=.agg #[.int .u8 z.op,.string ⟨z.dst.toArray⟩,.string ⟨z.a.toArray⟩,.string ⟨z.b.toArray⟩,.int .i64 z.n,.string ⟨z.fn.toArray⟩,va,vl]
theorem U4 {g:Nat} {X Y:World} (h:Chg (fun n=>n=g) X Y) (i:Nat) (v:Value):Chg (fun n=>n=g) X (Y.setCell ⟨g,i,none⟩ v):=
 h.trans (Chg.set (Q:=fun n=>n=g) Y (p:=⟨g,i,none⟩) rfl v) (fun _ _ e=>e)
theorem chg8 (g:Nat) (X:World) (a0 a1 a2 a3 a4 a5 a6 a7:Value):Chg (fun n=>n=g) X ((((((((X.setCell ⟨g,0,none⟩ a0).setCell ⟨g,1,none⟩ a1).setCell ⟨g,2,none⟩ a2).setCell ⟨g,3,none⟩ a3).setCell ⟨g,4,none⟩ a4).setCell ⟨g,5,none⟩ a5).setCell ⟨g,6,none⟩ a6).setCell ⟨g,7,none⟩ a7):=by
 exact U4 (U4 (U4 (U4 (U4 (U4 (U4 (U4 (Chg.refl _ _) 0 a0) 1 a1) 2 a2) 3 a3) 4 a4) 5 a5) 6 a6) 7 a7
theorem InsS.lower {lo lo':Nat} {w:World} {z:GIns} {va vl:Value} (h:InsS lo w z va vl) (hl:lo'<=lo):InsS lo' w z va vl:=fun W B hs=>h W B (SupI.mono hs hl)
theorem Yhp (h:MapL lo w m p) {f b k:Nat} {x:GFun} {y:GBlk} {z:GIns} (hf:p[f]?=some x) (hy:x.bk9[b]?=some y) (hz:y.code[k]?=some z):
  Calls Tryz.prog 20 #[.pointer (some ⟨m,0,none⟩),.agg #[.int .i64 f,.int .i64 b,.int .i64 k]] w fun e w'=>∃ A d A' d',e=.returned (.tuple #[insV z (.slice A z.args.length d) (.slice A' z.lb9.length d'),.bool true])/\
   InsS w.heap.size w' z (.slice A z.args.length d) (.slice A' z.lb9.length d')/\w.grownBy w' none/\w'.ownsRow w.heap.size 9 1 (.slice A z.args.length d) z.args.length (z.args.map encS):=by
 have hfl:=(Le hf).1;have hbl:=(Le hy).1;have hkl:=(Le hz).1;obtain⟨W,hW⟩:∃ W:World,W=(w.alloc (.cells #[.int .i64 f,.int .i64 b,.int .i64 k] 41)).alloc (.cells #[.int .u8 0,.string ⟨#[]⟩,.string ⟨#[]⟩,.string ⟨#[]⟩,.int .i64 0,.string ⟨#[]⟩,.slice none 0 0,.slice none 0 0] 25):=⟨_,rfl⟩
 have hgW:w.grownBy W none:=by rw[hW];exact Zd (Lc w _ none) _
 have hN:=Zaz (h.grown hgW) f;rw[decide_eq_true (show 0<=(f:Int)/\(f:Int)<p.length by omega)] at hN;obtain⟨A,c,vt,ft,mb,AS,cS,AO,cO,AP,cP,h⟩:=h.open_;have c0:w.cell? ⟨m,0,none⟩=some (.slice A p.length c):=(Za h.blk).1 0;have hml:=Ze h.blk;obtain⟨A5,c5,e5,hl1,hl2,-,hA⟩:=h.prog.open_;obtain⟨rfl,rfl⟩:A5=A/\c5=c:=by simp only[Value.slice.injEq] at e5;exact⟨e5.1.symm,e5.2.2.symm⟩
 obtain⟨x',bF,offF,hx',rfl,hbF,hr⟩:=hA.at_ hfl;obtain rfl:x=x':=by rw[hf] at hx';injection hx'
 obtain⟨A1,d1,A2,d2,hfa,m1,m2,e0,e1,e2⟩:=Yh hr;obtain⟨y',bB,offB,hy',rfl,hbB,hyr⟩:=hfa.bk9.at_ hbl;obtain rfl:y=y':=by rw[hy] at hy';injection hy'
 obtain⟨vc,hyb,y0,y1⟩:=hyr;obtain⟨A6,d6,rfl,o1,o2,o3,hC⟩:=hyb.code.open_;obtain⟨z',bC,offC,hz',rfl,hbC,hzr⟩:=hC.at_ hkl;obtain rfl:z=z':=by rw[hz] at hz';injection hz'
 obtain⟨va,vl,hzi,z0,z1,z2,z3,z4,z5,z6,z7⟩:=hzr;obtain⟨A7,d7,rfl,-,-,-,-⟩:=hzi.args.open_;obtain⟨A8,d8,rfl,-,-,-,-⟩:=hzi.lb9.open_;obtain⟨b3,hb3e⟩:∃ b3,b3=w.heap.size:=⟨_,rfl⟩
 obtain⟨b4,hb4e⟩:∃ b4,b4=w.heap.size+1:=⟨_,rfl⟩
 have hb3:W.heap[b3]?=some (.cells #[.int .i64 f,.int .i64 b,.int .i64 k] 41 (0,0)):=by rw[hW,hb3e];exact Zc (La w _) _
 have hb4:W.heap[b4]?=some (.cells #[.int .u8 0,.string ⟨#[]⟩,.string ⟨#[]⟩,.string ⟨#[]⟩,.int .i64 0,.string ⟨#[]⟩,.slice none 0 0,.slice none 0 0] 25 (0,0)):=by
  have:=La (w.alloc (.cells #[.int .i64 f,.int .i64 b,.int .i64 k] 41)) (.cells #[.int .u8 0,.string ⟨#[]⟩,.string ⟨#[]⟩,.string ⟨#[]⟩,.int .i64 0,.string ⟨#[]⟩,.slice none 0 0,.slice none 0 0] 25);rw[World.size_alloc] at this;rw[hW,hb4e];exact this
 have hsW:W.heap.size=w.heap.size+2:=by rw[hW];simp
 have HS:=hid (show ∀ W':World,W.grownBy W' none->W'.cell? ⟨b3,0,none⟩=some (.int .i64 f)/\W'.cell? ⟨m,0,none⟩=some (.slice (some ⟨bF,offF,none⟩) p.length c5)/\W'.cell? ⟨bF,offF+f*3,none⟩=some (.string ⟨x.name.toArray⟩)/\W'.cell? ⟨bF,offF+f*3+1,none⟩=some (.slice A1 x.params.length d1)/\W'.cell? ⟨bF,offF+f*3+2,none⟩=some (.slice (some ⟨bB,offB,none⟩) x.bk9.length d2) from fun W' hg=>by
  have hb:=Zk (Zb hgW hg)
  exact⟨(Lj (hg.block b3 (Ze hb3) (by simp))).trans ((Za hb3).1 0),cur hb hml c0,cur hb hbF e0,cur hb hbF e1,cur hb hbF e2⟩)
 have HT:=hid (show ∀ W':World,Chg (fun n=>n=b4) W W'->W'.cell? ⟨b3,1,none⟩=some (.int .i64 b)/\W'.cell? ⟨b3,2,none⟩=some (.int .i64 k)/\W'.cell? ⟨bB,offB+b*2+1,none⟩=some (.slice (some ⟨bC,offC,none⟩) y.code.length d6)/\
                   (W'.cell? ⟨bC,offC+k*8,none⟩=some (.int .u8 z.op)/\W'.cell? ⟨bC,offC+k*8+1,none⟩=some (.string ⟨z.dst.toArray⟩)/\W'.cell? ⟨bC,offC+k*8+2,none⟩=some (.string ⟨z.a.toArray⟩)/\W'.cell? ⟨bC,offC+k*8+3,none⟩=some (.string ⟨z.b.toArray⟩)/\W'.cell? ⟨bC,offC+k*8+4,none⟩=some (.int .i64 z.n)/\W'.cell? ⟨bC,offC+k*8+5,none⟩=some (.string ⟨z.fn.toArray⟩)/\W'.cell? ⟨bC,offC+k*8+6,none⟩=some (.slice A7 z.args.length d7)/\W'.cell? ⟨bC,offC+k*8+7,none⟩=some (.slice A8 z.lb9.length d8)) from fun W' hg=>by
                    have hc:=(Chg.grown (Q:=fun n=>n=b4) hgW (fun r e=>by cases e)).trans hg (fun _ _ e=>e)
                    have hb:Below w.heap.size w W':=⟨hc.os,hc.tape,hc.output,hc.size,fun n hn=>hc.block n hn (by show ¬ n=b4;omega)⟩
                    have hn3:¬ b3=b4:=by omega
                    exact⟨(Lj (hg.block b3 (Ze hb3) hn3)).trans ((Za hb3).1 1),(Lj (hg.block b3 (Ze hb3) hn3)).trans ((Za hb3).1 2),cur hb hbB y1,cur hb hbC z0,cur hb hbC z1,cur hb hbC z2,cur hb hbC z3,cur hb hbC z4,cur hb hbC z5,cur hb hbC z6,cur hb hbC z7⟩)
 have HI:=hid (show ∀ W':World,W.grownBy W' none->InsAt W' w.heap.size z (.slice A7 z.args.length d7) (.slice A8 z.lb9.length d8) from fun W' hg=>hzi.below (Zk (Zb hgW hg)) (Lf _));have HgW:=hid hgW;have HsW:=hid hsW;have Hb4:=hid hb4;have HbE:=hid (And.intro hb3e hb4e);clear hb3e hb4e;have hd1:¬ ((b:Int)<0):=by omega
 have hd2:¬ ((k:Int)<0):=by omega
 obtain⟨q3,-,-,-,-⟩:=HS.out W (Lb _ _);obtain⟨r3,s3,-⟩:=HT.out W (.refl _ _);clear h hA e5 c0 hml hr hfa e0 e1 e2 hyb y0 y1 hC hzi z0 z1 z2 z3 z4 z5 z6 z7 hb3 hb4 hsW hgW hx' hy' hz' hf hy hz m1 m2 o1;go_enter Tryz.func20,Tryz.ntmps20;go_upto_region 1 with (fail)
 rw[<-hW,<-HbE.out.2,<-HbE.out.1];clear hW;go_upto_region 3 with (first|(go_at_call 67;refine hN.mono ?_;rintro e w1 ⟨rfl,rfl⟩))
 have hs0:=HS.out W.drew (Zf (Lb _ _));clear q3 r3 s3;go_cut [6] (fun s6 wx=>s6=.pointer (some ⟨W.heap.size,0,none⟩)/\wx=(W.alloc (.cells #[.string ⟨x.name.toArray⟩,.slice A1 x.params.length d1,.slice (some ⟨bB,offB,none⟩) x.bk9.length d2] 37)).drew)
 case first=>
  go_region_held3 (fun W'=>W'.cell? ⟨b3,0,none⟩=some (.int .i64 f)/\W'.cell? ⟨m,0,none⟩=some (.slice (some ⟨bF,offF,none⟩) p.length c5)/\W'.cell? ⟨bF,offF+f*3,none⟩=some (.string ⟨x.name.toArray⟩)/\W'.cell? ⟨bF,offF+f*3+1,none⟩=some (.slice A1 x.params.length d1)/\W'.cell? ⟨bF,offF+f*3+2,none⟩=some (.slice (some ⟨bB,offB,none⟩) x.bk9.length d2))
   (first|exact hs0|exact HS.out _ (Zd (Zf (Lb _ _)) _)|exact HS.out _ (Zi (Zi (Zi (Zd (Zf (Lb _ _)) _) (by simp) _) (by simp) _) (by simp) _)) (fail)
  all_goals (go_wp2_with fail;go_meet)
  all_goals exact⟨rfl,rfl⟩
 case rest=>
  obtain⟨rfl,hwc⟩:=hcut;obtain⟨b6,hb6e⟩:∃ b6,b6=W.heap.size:=⟨_,rfl⟩
  have hb6:wc.heap[b6]?=some (.cells #[.string ⟨x.name.toArray⟩,.slice A1 x.params.length d1,.slice (some ⟨bB,offB,none⟩) x.bk9.length d2] 37 (0,0)):=by rw[hwc,hb6e];exact La W _
  have hgc:W.grownBy wc none:=by rw[hwc];exact Zf (Lc W _ none)
  have hn64:¬ b6=b4:=by have:=HbE.out;have:=HsW.out;omega
  have H6:=hid (show ∀ W':World,Chg (fun n=>n=b4) wc W'->W'.cell? ⟨b6,2,none⟩=some (.slice (some ⟨bB,offB,none⟩) x.bk9.length d2)/\_ from fun W' hc=>⟨(Lj (hc.block b6 (Ze hb6) hn64)).trans ((Za hb6).1 2),HT.out W' ((Chg.grown (Q:=fun n=>n=b4) hgc (fun r e=>by cases e)).trans hc (fun _ _ e=>e))⟩);rw[<-hb6e];have hb4c:=(hgc.block b4 (Ze Hb4.out) (by simp)).trans Hb4.out;have Hb4c:=hid hb4c;have Hgc:=hid hgc;have hcp:=hid (fun (W':World) (hg:wc.grownBy W' none)=>Yht z _ _ W' w.heap.size (HI.out W' (Zb hgc hg)) (by have:=HsW.out;have:=hgc.size;have:=hg.size;omega));obtain⟨g2,g31,g32,gB,-⟩:=H6.out wc (.refl _ _);clear hwc hb6e hb6 hgc hs0 hb4c;go_upto_region 4 with (fail)
  go_quiet (fail);go_upto_region 6 with (fail)
  clear g2 g31 g32 gB;obtain⟨wd,hwd⟩:∃ wd,wd=wc.drewN nq:=⟨_,rfl⟩
  have hgd:wc.grownBy wd.drew none:=by rw[hwd];exact Zf (Zg (Lb wc none) _)
  have hs6:=H6.out wd.drew (Chg.grown (Q:=fun n=>n=b4) hgd (fun r e=>by cases e));rw[<-hwd];clear hwd;go_cut [5] (fun s5 wx=>s5=.bool true/\∃ A d A' d',wx.heap[b4]?=some (.cells #[.int .u8 z.op,.string ⟨z.dst.toArray⟩,.string ⟨z.a.toArray⟩,.string ⟨z.b.toArray⟩,.int .i64 z.n,.string ⟨z.fn.toArray⟩,.slice A z.args.length d,.slice A' z.lb9.length d'] 25 (0,0))/\Hid (InsS w.heap.size wx z (.slice A z.args.length d) (.slice A' z.lb9.length d')/\wx.ownsRow w.heap.size 9 1 (.slice A z.args.length d) z.args.length (z.args.map encS))/\Hid (w.grownBy wx none))
  case first=>
   refine wp_region_held_drew (S:=(fun W'=>W'.cell? ⟨b6,2,none⟩=some (.slice (some ⟨bB,offB,none⟩) x.bk9.length d2)/\W'.cell? ⟨b3,1,none⟩=some (.int .i64 b)/\W'.cell? ⟨b3,2,none⟩=some (.int .i64 k)/\W'.cell? ⟨bB,offB+b*2+1,none⟩=some (.slice (some ⟨bC,offC,none⟩) y.code.length d6)/\W'.cell? ⟨bC,offC+k*8,none⟩=some (.int .u8 z.op)/\W'.cell? ⟨bC,offC+k*8+1,none⟩=some (.string ⟨z.dst.toArray⟩)/\W'.cell? ⟨bC,offC+k*8+2,none⟩=some (.string ⟨z.a.toArray⟩)/\W'.cell? ⟨bC,offC+k*8+3,none⟩=some (.string ⟨z.b.toArray⟩)/\W'.cell? ⟨bC,offC+k*8+4,none⟩=some (.int .i64 z.n)/\W'.cell? ⟨bC,offC+k*8+5,none⟩=some (.string ⟨z.fn.toArray⟩)/\W'.cell? ⟨bC,offC+k*8+6,none⟩=some (.slice A7 z.args.length d7)/\W'.cell? ⟨bC,offC+k*8+7,none⟩=some (.slice A8 z.lb9.length d8))) (by kernel_rfl) hs6 (fun hHeld=>?_);refine Yb (i:=0) (v:=?v1) rfl (by kernel_rfl) (by kernel_rfl) (by kernel_rfl) (fun _ _ _ h=>h) (Or.inl ⟨by rfl,?hy1⟩) hHeld ?rest1
   case hy1=>(intro w hSw;(try dsimp only at hSw);go_simp;(try with_reducible rfl))
   try simp only[Act.put,Lg,Lh,Li]
   refine Yb (i:=1) (v:=?v2) rfl (by kernel_rfl) (by kernel_rfl) (by kernel_rfl) (fun _ _ _ h=>h) (Or.inl ⟨by rfl,?hy2⟩) hHeld ?rest2
   case hy2=>(intro w hSw;(try dsimp only at hSw);go_simp;(try with_reducible rfl))
   try simp only[Act.put,Lg,Lh,Li]
   refine Yb (i:=2) (v:=?v3) rfl (by kernel_rfl) (by kernel_rfl) (by kernel_rfl) (fun _ _ _ h=>h) (Or.inl ⟨by rfl,?hy3⟩) hHeld ?rest3
   case hy3=>(intro w hSw;(try dsimp only at hSw);go_simp;(try with_reducible rfl))
   try simp only[Act.put,Lg,Lh,Li]
   refine Yb (i:=3) (v:=?v4) rfl (by kernel_rfl) (by kernel_rfl) (by kernel_rfl) (fun _ _ _ h=>h) (Or.inl ⟨by rfl,?hy4⟩) hHeld ?rest4
   case hy4=>(intro w hSw;(try dsimp only at hSw);go_simp;(try with_reducible rfl))
   try simp only[Act.put,Lg,Lh,Li]
   refine Yb (i:=4) (v:=?v5) rfl (by kernel_rfl) (by kernel_rfl) (by kernel_rfl) (fun _ _ _ h=>h) (Or.inl ⟨by rfl,?hy5⟩) hHeld ?rest5
   case hy5=>(intro w hSw;(try dsimp only at hSw);go_simp;(try with_reducible rfl))
   try simp only[Act.put,Lg,Lh,Li]
   refine Yb (i:=5) (v:=?v6) rfl (by kernel_rfl) (by kernel_rfl) (by kernel_rfl) (fun _ _ _ h=>h) (Or.inl ⟨by rfl,?hy6⟩) hHeld ?rest6
   case hy6=>(intro w hSw;(try dsimp only at hSw);go_simp;(try with_reducible rfl))
   try simp only[Act.put,Lg,Lh,Li]
   refine Yb (i:=6) (v:=?v7) rfl (by kernel_rfl) (by kernel_rfl) (by kernel_rfl) (fun _ _ _ h=>h) (Or.inl ⟨by rfl,?hy7⟩) hHeld ?rest7
   case hy7=>(intro w hSw;(try dsimp only at hSw);go_simp;(try with_reducible rfl))
   try simp only[Act.put,Lg,Lh,Li]
   refine Yb (i:=7) (v:=?v8) rfl (by kernel_rfl) (by kernel_rfl) (by kernel_rfl) (fun _ _ _ h=>h) (Or.inl ⟨by rfl,?hy8⟩) hHeld ?rest8
   case hy8=>(intro w hSw;(try dsimp only at hSw);go_simp;(try with_reducible rfl))
   try simp only[Act.put,Lg,Lh,Li]
   refine Yb (i:=8) (v:=?v9) rfl (by kernel_rfl) (by kernel_rfl) (by kernel_rfl) (fun _ _ _ h=>h) (Or.inl ⟨by rfl,?hy9⟩) hHeld ?rest9
   case hy9=>(intro w hSw;(try dsimp only at hSw);go_simp;(try with_reducible rfl))
   try simp only[Act.put,Lg,Lh,Li]
   refine Yb (i:=9) (v:=?v10) rfl (by kernel_rfl) (by kernel_rfl) (by kernel_rfl) (fun _ _ _ h=>h) (Or.inl ⟨by rfl,?hy10⟩) hHeld ?rest10
   case hy10=>(intro w hSw;(try dsimp only at hSw);go_simp;(try with_reducible rfl))
   try simp only[Act.put,Lg,Lh,Li]
   refine Yb (i:=10) (v:=?v11) rfl (by kernel_rfl) (by kernel_rfl) (by kernel_rfl) (fun _ _ _ h=>h) (Or.inl ⟨by rfl,?hy11⟩) hHeld ?rest11
   case hy11=>(intro w hSw;(try dsimp only at hSw);go_simp;(try with_reducible rfl))
   try simp only[Act.put,Lg,Lh,Li]
   refine doH (i:=11) (by kernel_rfl) rfl (fun K' hK=>?_);go_simp;go_at_call 68;refine (hcp.out _ hgd).mono ?_;rintro e w6 ⟨A9,d9,A10,d10,rfl,hI6,hg6,hO6⟩;have hgd6:=Zb hgd hg6;have hb46:=(hgd6.block b4 (Ze Hb4c.out) (by simp)).trans Hb4c.out;have hs7:=H6.out w6 (Chg.grown (Q:=fun n=>n=b4) hgd6 (fun r e=>by cases e));refine hK.out _ _ hs7 (fun _=>?_)
   try simp only[Act.put,Lg,Lh,Li]
   obtain⟨kx,fx⟩:=Za hb46;have fx0:=fx 0;have fx1:=fx 1;have fx2:=fx 2;have fx3:=fx 3;have fx4:=fx 4;have fx5:=fx 5;have fx6:=fx 6;have fx7:=fx 7;have kx0:=kx 0;have kx1:=kx 1;have kx2:=kx 2;have kx3:=kx 3;have kx4:=kx 4;have kx5:=kx 5;have kx6:=kx 6;have kx7:=kx 7;clear kx fx hs7;refine doH (i:=12) (by kernel_rfl) rfl (fun K' hK=>?_);go_simp;have hc8:=chg8 b4 w6 (.int .u8 z.op) (.string ⟨z.dst.toArray⟩) (.string ⟨z.a.toArray⟩) (.string ⟨z.b.toArray⟩) (.int .i64 z.n) (.string ⟨z.fn.toArray⟩) (.slice A9 z.args.length d9) (.slice A10 z.lb9.length d10);have hs8:=H6.out _ ((Chg.grown (Q:=fun n=>n=b4) hgd6 (fun r e=>by cases e)).trans hc8 (fun _ _ e=>e));refine hK.out _ _ hs8 (fun hHeld=>?_)
   try simp only[Act.put,Lg,Lh,Li]
   refine Yb (i:=13) (v:=?v13) rfl (by kernel_rfl) (by kernel_rfl) (by kernel_rfl) (fun _ _ _ h=>h) (Or.inl ⟨by rfl,?hy13⟩) hHeld ?rest13
   case hy13=>(intro w hSw;(try dsimp only at hSw);go_simp;(try with_reducible rfl))
   try simp only[Act.put,Lg,Lh,Li]
   refine wpAnyH_done (by kernel_rfl) ?_ _;go_wp2_with fail;go_meet;have hb8:(set8 w6 b4 (.int .u8 z.op) (.string ⟨z.dst.toArray⟩) (.string ⟨z.a.toArray⟩) (.string ⟨z.b.toArray⟩) (.int .i64 z.n) (.string ⟨z.fn.toArray⟩) (.slice A9 z.args.length d9) (.slice A10 z.lb9.length d10)).heap[b4]?=_:=Zgt hb46 (.int .u8 z.op) (.string ⟨z.dst.toArray⟩) (.string ⟨z.a.toArray⟩) (.string ⟨z.b.toArray⟩) (.int .i64 z.n) (.string ⟨z.fn.toArray⟩) (.slice A9 z.args.length d9) (.slice A10 z.lb9.length d10);have hgw6:=Zb HgW.out (Zb Hgc.out hgd6);have hbe:=HbE.out;have hsd:w.heap.size+2<=wd.drew.heap.size:=by have:=HsW.out;have:=(Zb Hgc.out hgd).size;omega
   refine⟨rfl,A9,d9,A10,d10,hb8,hid ⟨fun W' B' hs=>hI6 W' B' ((SupI.mono hs (by omega)).chg hc8 (fun n h1 _ e=>by omega)),Zcy (hc8.owns hO6 (fun n e q=>by have:=(hO6.lt n e).1;omega)) (by omega)⟩,hid (Y3 hgw6 (Zgu w6 b4 (.int .u8 z.op) (.string ⟨z.dst.toArray⟩) (.string ⟨z.a.toArray⟩) (.string ⟨z.b.toArray⟩) (.int .i64 z.n) (.string ⟨z.fn.toArray⟩) (.slice A9 z.args.length d9) (.slice A10 z.lb9.length d10)) (fun q e=>by injection e with e;omega))⟩
  case rest=>
   obtain⟨rfl,A9,d9,A10,d10,hb,hI9,hg9⟩:=hcut;obtain⟨kx,-⟩:=Za hb;have kx0:=kx 0;have kx1:=kx 1;have kx2:=kx 2;have kx3:=kx 3;have kx4:=kx 4;have kx5:=kx 5;have kx6:=kx 6;have kx7:=kx 7;go_wp2;refine bodyPost_ret (v:=.tuple #[insV z (.slice A9 z.args.length d9) (.slice A10 z.lb9.length d10),.bool true]) (by simp[results,Tryz.results20,go_sem,insV,kx0,kx1,kx2,kx3,kx4,kx5,kx6,kx7]) rfl ⟨A9,d9,A10,d10,rfl,hI9.out.1,hg9.out,hI9.out.2⟩
end

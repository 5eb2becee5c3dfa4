/- A map of package sites that is made. Conditions in it. -/
import Derived.Test.YtphnnmecmiodhaaGreatEStb
import Derived.Test.YtphnnmecmiodhaaGreatEPrg
import Derived.Test.YtphnnmecmiodhaaGreatESnp
import Derived.Test.YtphnnmecmiodhaaGreatEItq
set_option maxHeartbeats 8000000
set_option maxRecDepth 100000
set_option linter.all false
namespace Go.Proofs.YtphnnmecmiodhaaGreat
open Lib(hid)
section
open Go.RowKit Go.Shelf
structure MapL (lo:Nat) (w:World) (m:Nat) (p:GProg):Prop where
 ok:NOk p
 lay:∃ (base:Nat) (a:MAd) (r:Rw) (A:Option Addr) (c:Nat),a.m=m/\MapI w base a.m a.vt a.vM a.ft a.fM a.mb (.slice A p.length c) r.vV r.vF r.vS r.vO r.vP (Zh p p.length) (Zy p p.length)/\
  base<=w.heap.size/\(∀ n,MQ a r n->lo<=n)/\∀ W B',SupI lo w W B'->ProgAt W B' (.slice A p.length c) p
theorem MapL.chg {lo:Nat} {w w':World} {m:Nat} {p:GProg} {Q:Nat->Prop} (h:MapL lo w m p) (hg:Chg Q w w') (hq:∀ n,lo<=n->n<w.heap.size->¬ Q n):MapL lo w' m p where
 ok:=h.ok
 lay:=by
  obtain⟨base,a,r,A,c,e,hm,hb,hl,hp⟩:=h.lay;exact⟨base,a,r,A,c,e,hm.chg hg (fun n hn=>hq n (hl n hn) (hm.lt hn)),Nat.le_trans hb hg.size,hl,fun W B' hs=>hp W B' (hs.chg hg hq)⟩
theorem MapL.grown {lo:Nat} {w w':World} {m:Nat} {p:GProg} (h:MapL lo w m p) (hg:w.grownBy w' none):MapL lo w' m p:=
 h.chg (Chg.grown (Q:=fun _=>False) hg (fun r e=>by cases e)) (fun _ _ _ e=>e)
structure MapO (w:World) (m:Nat) (p:GProg) (A:Option Addr) (c vt ft mb:Nat) (AS:Option Addr) (cS:Nat) (AO:Option Addr) (cO:Nat) (AP:Option Addr) (cP:Nat):Prop where
 ok:NOk p
 blk:w.heap[m]?=some (.cells #[.slice A p.length c,.pointer (some ⟨vt,0,none⟩),.pointer (some ⟨ft,0,none⟩),.slice AS (Zh p p.length).sites.length cS,.map (some mb),.slice AO (Zh p p.length).of.length cO,.slice AP (Zh p p.length).pl.length cP] 128 (0,0))
 prog:ProgAt w w.heap.size (.slice A p.length c) p
 vars:∃ base vM vV,TabL w base vt vM vV (Zh p p.length).vars/\base<=w.heap.size
 funs:∃ base fM vF,TabS w base ft fM vF (Zy p p.length)/\base<=w.heap.size
 sites:∃ base,w.ownsRow base 135 5 (.slice AS (Zh p p.length).sites.length cS) (Zh p p.length).sites.length ((Zh p p.length).sites.flatMap Qc)
 by_:w.heap[mb]?=some (Z7 Ve Z4 (Zh p p.length).at_)
 of:∃ base,w.ownsRow base 3 1 (.slice AO (Zh p p.length).of.length cO) (Zh p p.length).of.length ((Zh p p.length).of.map Z4)
 pts:∃ base,w.ownsRow base 41 3 (.slice AP (Zh p p.length).pl.length cP) (Zh p p.length).pl.length ((Zh p p.length).pl.flatMap Kk)
theorem MapL.open_ {lo:Nat} {w:World} {m:Nat} {p:GProg} (h:MapL lo w m p):∃ A c vt ft mb AS cS AO cO AP cP,MapO w m p A c vt ft mb AS cS AO cO AP cP:=by
 obtain⟨base,a,r,A,c,rfl,hm,hb,hl,hp⟩:=h.lay;obtain⟨m0,vt,vM,ft,fM,mb⟩:=a;obtain⟨vV,vF,vS,vO,vP⟩:=r;simp only at hm;obtain⟨AS,cS,rfl,-,-,-,-⟩:=Zz hm.sites;obtain⟨AO,cO,rfl,-,-,-,-⟩:=Zz hm.of;obtain⟨AP,cP,rfl,-,-,-,-⟩:=Zz hm.pts;exact⟨A,c,vt,ft,mb,AS,cS,AO,cO,AP,cP,h.ok,hm.blk,hp w _ (SupI.refl _ _),⟨base,vM,vV,hm.vars,hb⟩,⟨base,fM,vF,hm.funs,hb⟩,⟨base,hm.sites⟩,hm.by_,⟨base,hm.of⟩,⟨base,hm.pts⟩⟩
theorem MapO.lens {w:World} {m:Nat} {p:GProg} {A:Option Addr} {c vt ft mb:Nat} {AS:Option Addr} {cS:Nat} {AO:Option Addr} {cO:Nat} {AP:Option Addr} {cP:Nat} (h:MapO w m p A c vt ft mb AS cS AO cO AP cP):
  (Zh p p.length).vars.length<=5000/\(Zh p p.length).pl.length<=4096/\(Zh p p.length).sites.length<=4096/\(Zh p p.length).of.length<=262144/\p.length<=64:=by
 obtain⟨h1,h2,h3,h4⟩:=h.ok.lens (Lf p.length) (SLe.refl _);exact⟨h1,h2,h3,h4,h.ok.funcs.2⟩
theorem MapO.siteC {w:World} {m:Nat} {p:GProg} {A:Option Addr} {c vt ft mb:Nat} {AS:Option Addr} {cS:Nat} {AO:Option Addr} {cO:Nat} {AP:Option Addr} {cP:Nat} (h:MapO w m p A c vt ft mb AS cS AO cO AP cP) {j:Nat} {x:GPt×Nat×Nat} (hx:(Zh p p.length).sites[j]?=some x):
  ∃ g,AS=some ⟨g,0,none⟩/\g<w.heap.size/\(Zh p p.length).sites.length<=cS/\cS<=maxLen/\w.cell? ⟨g,j*5,none⟩=some (.int .i64 x.1.1)/\w.cell? ⟨g,j*5+1,none⟩=some (.int .i64 x.1.2.1)/\w.cell? ⟨g,j*5+2,none⟩=some (.int .i64 x.1.2.2)/\w.cell? ⟨g,j*5+3,none⟩=some (.int .i64 x.2.1)/\w.cell? ⟨g,j*5+4,none⟩=some (.int .i64 x.2.2):=by
 obtain⟨base,ho⟩:=h.sites;have hj:=(Le hx).1;obtain⟨A',c',e,_,_,h0,h1⟩:=Zz ho;injection e with e _ e2
 subst e;subst e2
 cases AS with
 |none=>have:=(h0 rfl).1;omega
 |some a=>
  obtain⟨ha,-,-⟩:=h1 a rfl;rw[ha] at ho ⊢;obtain⟨_,h3,h4,h5,h6⟩:=Xm ho;have key:∀ t (u:Value),t<5->(Qc x)[t]?=some u->w.cell? ⟨a.block,j*5+t,none⟩=some u:=fun t u ht hu=>h6 _ _ ((Qz (f:=Qc) (sz:=5) (fun z _=>rfl) hx ht).trans hu)
  exact⟨a.block,rfl,h3,h4,h5,key 0 _ (by omega) rfl,key 1 _ (by omega) rfl,key 2 _ (by omega) rfl,key 3 _ (by omega) rfl,key 4 _ (by omega) rfl⟩
end
section
open Go.RowKit Go.Shelf
variable {lo:Nat} {w:World} {m:Nat} {p:GProg}
theorem Zot (h:MapL lo w m p):Calls Tryz.prog 55 #[.pointer (some ⟨m,0,none⟩)] w fun e w'=>e=.returned (.int .i64 p.length)/\w=w':=by
 obtain⟨A,c,vt,ft,mb,AS,cS,AO,cO,AP,cP,h⟩:=h.open_;have c0:w.cell? ⟨m,0,none⟩=some (.slice A p.length c):=(Za h.blk).1 0;clear h;go_enter Tryz.func55,Tryz.ntmps55;go_wp2;go_ret;exact⟨rfl,rfl⟩
theorem Zaz (h:MapL lo w m p) (f:Int):Calls Tryz.prog 72 #[.pointer (some ⟨m,0,none⟩),.int .i64 f] w fun e w'=>e=.returned (.bool (decide (0<=f/\f<p.length)))/\w=w':=by
 have hN:=Zot h;clear h
 by_cases h0:0<=f
 ·go_enter Tryz.func72,Tryz.ntmps72;go_wp2_with (go_at_call 55;refine hN.mono ?_;rintro e w1 ⟨rfl,rfl⟩);go_ret;exact⟨by simp[h0],rfl⟩
 ·go_enter Tryz.func72,Tryz.ntmps72;go_wp2_with (go_at_call 55;refine hN.mono ?_;rintro e w1 ⟨rfl,rfl⟩);go_ret;exact⟨by simp;omega,rfl⟩
theorem Zxr (h:MapL lo w m p) (f:Nat) (hf:f<p.length):Calls Tryz.prog 84 #[.pointer (some ⟨m,0,none⟩),.int .i64 f] w fun e w'=>e=.returned (.int .i64 (((Zh p p.length).of.length:Int)+(f:Int)))/\w=w':=by
 have hN:=Zaz h f;rw[decide_eq_true (show 0<=(f:Int)/\(f:Int)<p.length by omega)] at hN;obtain⟨A,c,vt,ft,mb,AS,cS,AO,cO,AP,cP,h⟩:=h.open_;obtain⟨-,-,-,h4,h5⟩:=h.lens;have hwrap:IntKind.i64.wrap (((Zh p p.length).of.length:Int)+(f:Int))=((Zh p p.length).of.length:Int)+(f:Int):=by rw[IntKind.wrap_i64];omega
 have c5:w.cell? ⟨m,5,none⟩=some (.slice AO (Zh p p.length).of.length cO):=(Za h.blk).1 5;clear h h4 h5;go_enter Tryz.func84,Tryz.ntmps84;go_wp2_with (go_at_call 72;refine hN.mono ?_;rintro e w1 ⟨rfl,rfl⟩);go_ret;exact⟨by first|rfl|simp[hwrap],rfl⟩
def Zag (p:GProg) (f:Int) (s:Str):Int×Bool:=if 0<=f/\f<p.length then (if s=nought then (-1,true) else if Zga (Zh p p.length).vars (f.toNat,s)=true then ((ixK (Zh p p.length).vars (f.toNat,s):Nat),true) else (-1,false)) else (-1,false)
theorem Zbw (h:MapL lo w m p) (f:Int) (s:Str):Calls Tryz.prog 34 #[.pointer (some ⟨m,0,none⟩),.int .i64 f,.string ⟨s.toArray⟩] w fun e w'=>e=.returned (.tuple #[.int .i64 (Zag p f s).1,.bool (Zag p f s).2])/\w.grownBy w' none:=by
 have hN:=Zaz h f;obtain⟨A,c,vt,ft,mb,AS,cS,AO,cO,AP,cP,h⟩:=h.open_;have c1:w.cell? ⟨m,1,none⟩=some (.pointer (some ⟨vt,0,none⟩)):=(Za h.blk).1 1;obtain⟨base,vM,vV,hT,hb⟩:=h.vars;clear h;unfold Zag
 by_cases hf:0<=f/\f<p.length
 ·rw[decide_eq_true hf] at hN;rw[if_pos hf];obtain⟨n,rfl⟩:∃ n:Nat,f=n:=⟨f.toNat,by omega⟩
  have hL:=Zrs _ _ _ _ _ (n,s) w hT hb;rw[Int.toNat_natCast];clear hT hb hf
  cases hs:s == [110,117,108,108] with
  |true=>
   rw[if_pos (show s=nought from eq_of_beq hs)];go_enter Tryz.func34,Tryz.ntmps34;go_wp2_with (first|(go_at_call 72;refine hN.mono ?_;rintro e w1 ⟨rfl,rfl⟩));go_ret2;exact⟨by first|rfl|simp,Lb _ _⟩
  |false=>
   rw[if_neg (show ¬ s=nought from fun e=>by rw[e] at hs;exact absurd hs (by decide))]
   cases hk:Zga (Zh p p.length).vars (n,s) with
   |true=>
    rw[hk] at hL;go_enter Tryz.func34,Tryz.ntmps34;go_wp2_with (first|(go_at_call 72;refine hN.mono ?_;rintro e w1 ⟨rfl,rfl⟩)|(go_at_call 80;refine hL.mono ?_;rintro e w2 ⟨rfl,hg⟩));go_ret2;exact⟨by first|rfl|simp,hg⟩
   |false=>
    rw[hk] at hL;go_enter Tryz.func34,Tryz.ntmps34;go_wp2_with (first|(go_at_call 72;refine hN.mono ?_;rintro e w1 ⟨rfl,rfl⟩)|(go_at_call 80;refine hL.mono ?_;rintro e w2 ⟨rfl,hg⟩));go_ret2;exact⟨by first|rfl|simp,hg⟩
 ·rw[decide_eq_false hf] at hN;rw[if_neg hf];clear hT hb hf;go_enter Tryz.func34,Tryz.ntmps34;go_wp2_with (first|(go_at_call 72;refine hN.mono ?_;rintro e w1 ⟨rfl,rfl⟩));go_ret2;exact⟨by first|rfl|simp,Lb _ _⟩
theorem Zhc {f:Nat} (hf:f<p.length) {s:Str} (hs:s≠nought) (hm:(f,s)∈(Zh p p.length).vars):Zag p f s=((((Zh p p.length).vars.idxOf (f,s):Nat):Int),true):=by
 have h1:(Zh p p.length).vars.contains (f,s)=true:=List.contains_iff_mem.2 hm;unfold Zag Zga ixK;rw[if_pos (by omega),if_neg hs,Int.toNat_natCast,if_pos h1,if_pos h1]
theorem J8 (h:MapL lo w m p) (s:Str):Calls Tryz.prog 37 #[.pointer (some ⟨m,0,none⟩),.string ⟨s.toArray⟩] w fun e w'=>e=.returned (.tuple #[.int .i64 (ixK (Zy p p.length) s),.bool (Zga (Zy p p.length) s)])/\w.grownBy w' none:=by
 obtain⟨A,c,vt,ft,mb,AS,cS,AO,cO,AP,cP,h⟩:=h.open_;have c2:w.cell? ⟨m,2,none⟩=some (.pointer (some ⟨ft,0,none⟩)):=(Za h.blk).1 2;obtain⟨base,vM,vV,hT,hb⟩:=h.funs;have hL:=Zrt _ _ _ _ _ s w hT hb;clear h hT hb;go_enter Tryz.func37,Tryz.ntmps37;go_wp2_with (go_at_call 82;refine hL.mono ?_;rintro e w2 ⟨rfl,hg⟩);go_ret2;exact⟨by first|rfl|simp,hg⟩
theorem box3 (w:World) (q:GPt):(w.alloc (.cells #[.int .i64 q.1,.int .i64 q.2.1,.int .i64 q.2.2] 41)).heap[w.heap.size]?=some (.cells #[.int .i64 q.1,.int .i64 q.2.1,.int .i64 q.2.2] 41 (0,0)):=La _ _
theorem Zvg (h:MapL lo w m p) {q:GPt} (hq:Z6 (Zh p p.length).at_ q=none):Calls Tryz.prog 173 #[.pointer (some ⟨m,0,none⟩),.agg #[.int .i64 q.1,.int .i64 q.2.1,.int .i64 q.2.2]] w fun e w'=>e=.returned (.tuple #[.int .i64 0,.int .i64 0,.bool false])/\w.grownBy w' none:=by
 obtain⟨A,c,vt,ft,mb,AS,cS,AO,cO,AP,cP,h⟩:=h.open_;obtain⟨W,hW⟩:∃ W:World,W=w.alloc (.cells #[.int .i64 q.1,.int .i64 q.2.1,.int .i64 q.2.2] 41):=⟨_,rfl⟩
 have hgW:w.grownBy W none:=by rw[hW];exact Lc _ _ _
 have hb:=(hgW.block _ (Ze h.by_) (by simp)).trans h.by_;have hrun:=fun nq=>U2 (P:=Tryz.prog) (w:=W.drewN nq) Zon Tryz.underlying125 hb q (z:=.int .i64 0) (by kernel_rfl)
 rw[hq] at hrun;simp only[Ve,Option.isSome_none] at hrun;have c4:W.cell? ⟨m,4,none⟩=some (.map (some mb)):=(Za ((hgW.block _ (Ze h.blk) (by simp)).trans h.blk)).1 4;have hbx:=box3 w q;rw[<-hW] at hbx;obtain⟨k,-⟩:=Za hbx;have k0:=k 0;have k1:=k 1;have k2:=k 2;have Hg:=hid hgW;clear h hb hbx k hgW hq;go_enter Tryz.func173,Tryz.ntmps173;go_upto_region 3 with (fail)
 rw[<-hW];clear hW;go_quiet (fail);go_wp2;refine bodyPost_ret (v:=.tuple #[.int .i64 0,.int .i64 0,.bool false]) (by simp[results,Tryz.results173,go_sem]) rfl ⟨rfl,Zg Hg.out nq⟩
theorem Zss (h:MapL lo w m p) {q:GPt} {j:Nat} {x:GPt×Nat×Nat} (hq:Z6 (Zh p p.length).at_ q=some j) (hx:(Zh p p.length).sites[j]?=some x):Calls Tryz.prog 173 #[.pointer (some ⟨m,0,none⟩),.agg #[.int .i64 q.1,.int .i64 q.2.1,.int .i64 q.2.2]] w fun e w'=>e=.returned (.tuple #[.int .i64 x.2.1,.int .i64 x.2.2,.bool true])/\w.grownBy w' none:=by
 obtain⟨A,c,vt,ft,mb,AS,cS,AO,cO,AP,cP,h⟩:=h.open_;obtain⟨W,hW⟩:∃ W:World,W=w.alloc (.cells #[.int .i64 q.1,.int .i64 q.2.1,.int .i64 q.2.2] 41):=⟨_,rfl⟩
 have hgW:w.grownBy W none:=by rw[hW];exact Lc _ _ _
 have hbW:=Zk hgW;have hb:=(hgW.block _ (Ze h.by_) (by simp)).trans h.by_;have hrun:=fun nq=>U2 (P:=Tryz.prog) (w:=W.drewN nq) Zon Tryz.underlying125 hb q (z:=.int .i64 0) (by kernel_rfl)
 rw[hq] at hrun;simp only[Ve,Option.isSome_some,Z4] at hrun;obtain⟨g,rfl,hgl,h1,h2,-,-,-,s3,s4⟩:=h.siteC hx;have hj:=(Le hx).1;have d3:=cur hbW hgl s3;have d4:=cur hbW hgl s4;obtain⟨cm,-⟩:=Za ((hgW.block _ (Ze h.blk) (by simp)).trans h.blk);have c4:W.cell? ⟨m,4,none⟩=some (.map (some mb)):=cm 4;have c3:W.cell? ⟨m,3,none⟩=some (.slice (some ⟨g,0,none⟩) (Zh p p.length).sites.length cS):=cm 3;have hbx:=box3 w q;rw[<-hW] at hbx;obtain⟨k,-⟩:=Za hbx;have k0:=k 0;have k1:=k 1;have k2:=k 2;have Hg:=hid hgW;clear h hb hbx k hgW hq s3 s4 cm hbW hx;go_enter Tryz.func173,Tryz.ntmps173;go_upto_region 3 with (fail)
 rw[<-hW];clear hW;go_quiet (fail);go_upto_region 6 with (fail)
 go_quiet (fail);go_wp2;refine bodyPost_ret (v:=.tuple #[.int .i64 x.2.1,.int .i64 x.2.2,.bool true]) (by simp[results,Tryz.results173,go_sem]) rfl ⟨rfl,?_⟩
 first|exact Zg (Zg Hg.out _) _|exact Zg Hg.out _
end
section
open Go.RowKit Go.Shelf
variable {lo:Nat} {w:World} {m:Nat} {p:GProg}
theorem Zmh (h:MapL lo w m p) {f:Nat} {x:GFun} (hf:p[f]?=some x):Calls Tryz.prog 46 #[.pointer (some ⟨m,0,none⟩),.int .i64 f] w fun e w'=>∃ v,e=.returned v/\
  w'.ownsRow w.heap.size 3 1 v (x.params.map fun s=>(Zh p p.length).vars.idxOf (f,s)).length ((x.params.map fun s=>(Zh p p.length).vars.idxOf (f,s)).map Z4)/\w.grownBy w' none:=by
 have hfl:=(Le hf).1;have hN:=Zaz h f;rw[decide_eq_true (show 0<=(f:Int)/\(f:Int)<p.length by omega)] at hN;have HM:=hid h;obtain⟨A,c,vt,ft,mb,AS,cS,AO,cO,AP,cP,h⟩:=h.open_;have c0:w.cell? ⟨m,0,none⟩=some (.slice A p.length c):=(Za h.blk).1 0;obtain⟨A5,c5,e5,hl1,hl2,-,hA⟩:=h.prog.open_;obtain⟨rfl,rfl⟩:A5=A/\c5=c:=by simp only[Value.slice.injEq] at e5;exact⟨e5.1.symm,e5.2.2.symm⟩
 obtain⟨x',b,off,hx,rfl,hbB,hr⟩:=hA.at_ hfl;obtain rfl:x=x':=by rw[hf] at hx;injection hx
 obtain⟨A1,d1,A2,d2,hfa,m1,m2,e0,e1,e2⟩:=Yh hr;have Hok:=hid h.ok;have Hfa:=hid hfa;have Hf:=hid hf;have hml:=h.ok.params hf;have hmw:=Ze h.blk;clear h hA hx hr e0 e2 hfa e5;obtain⟨ix,hix⟩:∃ ix:Str->Nat,ix=fun s=>(Zh p p.length).vars.idxOf (f,s):=⟨_,rfl⟩
 rw[<-hix];have Hix:=hid hix;clear hix;go_enter Tryz.func46,Tryz.ntmps46;go_wp2_with (first|(go_at_call 72;refine hN.mono ?_;rintro e w1 ⟨rfl,rfl⟩));go_loopw [24,5] (fun s24 s5 wr'=>∃ j:Nat,j<=x.params.length/\s24=.int .i64 j/\∃ A3 d3,s5=.slice A3 j d3/\Hid (wr'.ownsRow w.heap.size 3 1 (.slice A3 j d3) ((x.params.take j).map ix).length (((x.params.take j).map ix).map Z4))/\Hid (w.grownBy wr' none)) (fun s24 _ _=>x.params.length-(intOf s24).toNat)
 case atStart=>exact⟨0,Ln _,rfl,none,0,rfl,⟨rfl,.inl ⟨rfl,rfl⟩⟩,Lb _ _⟩
 case round=>
  obtain⟨j,hj,rfl,A3,d3,rfl,ho,hg⟩:=hrel
  by_cases hlj:j<x.params.length
  ·obtain⟨s,b1,off1,hs,rfl,hb1,hstr,hsl⟩:=Hfa.out.params.at1 hlj;have hstr1:=cur (Zk hg.out) hb1 hstr;have hpn:=(Zvu Hok.out Hf.out (j:=j) (by omega)).2 s hs;have hvar:=(Zbw (HM.out.grown hg.out) f s)
   rw[Zhc hfl (U0 (Hok.out.pname Hf.out s (List.mem_of_getElem? hs))).1 hpn.2] at hvar;have hix:(Zh p p.length).vars.idxOf (f,s)=ix s:=by rw[Hix.out]
   rw[hix] at hvar;have Hmore:(x.params.take j).map ix++[ix s]=(x.params.take (j+1)).map ix:=by rw[List.take_add_one,hs];simp
   have HM1:=hid Hmore;have c3:∀ W:World,(W.alloc (.cells #[.int .i64 (ix s)] 3)).cell? ⟨W.heap.size,0,none⟩=some (.int .i64 (ix s)):=fun W=>by simp
   clear hpn hix Hmore hstr hs;go_upto_region 8 with (go_at_call 34;refine hvar.mono ?_;rintro e w2 ⟨rfl,hg2⟩;have ho8:=((ho.out.kept hg2 (by cases (Value.slice A3 j d3).ownBlock<;>simp)).alloc (.cells #[.int .i64 (ix s)] 3));have c4:=c3 w2;have hs2:=hg2.size;have hs1:=hg.out.size)
   go_wp2_with (refine X2 rfl _ _ rfl w.heap.size _ ((x.params.take j).map ix) rfl ho8 w2.heap.size (ix s) rfl c4 (by simp;omega) (by simp;omega) ?_;intro G cap w3 ho3 hg3 hor);go_roundw
   case measure=>simp[intOf];omega
   case rel=>
    refine⟨j+1,by omega,by go_num,some ⟨G,0,none⟩,cap,?_,?_,?_⟩
    ·rfl
    ·have hlj':((x.params.take j).map ix).length=j:=by simp;omega
     rw[hlj'] at ho3;rw[<-HM1.out];exact ho3
    ·exact Y3 (Zd (Zb hg.out hg2) _) hg3 (fun q e=>(ho.out.lt q e).1)
  ·obtain rfl:j=x.params.length:=by omega
   rw[List.take_length] at ho;go_wp2;go_ret;exact⟨_,rfl,ho.out,hg.out⟩
end
section
open Go.RowKit Go.Shelf
variable {lo m:Nat} {p:GProg}
theorem Ztc {w:World} {base:Nat} {v:Value} {l:List Nat} (h:w.ownsRow base 3 1 v l.length (l.map Z4)) (hb:∀ x∈l,x<=9223372036854775807):SlAt natR 1 w w.heap.size v l:=by
 refine SlAt.of_ownN h rfl (fun g e=>(h.lt g e).2) fun g k x e hx=>?_
 obtain⟨A',c',rfl,_,_,h0,h1⟩:=Zz h
 cases A' with
 |none=>simp[Value.ownBlock] at e
 |some a=>
  obtain⟨ha,-,-⟩:=h1 a rfl;rw[ha] at h e;simp only[Value.ownBlock,Option.map_some,Option.some.injEq] at e;obtain⟨_,_,_,_,h6⟩:=Xm h;have hc:=h6 k (Z4 x) (by rw[List.getElem?_map,hx];rfl);rw[<-e];refine⟨?_,hb x (Ll hx)⟩;rw[Nat.mul_one];exact hc
def vN (p:GProg) (f:Nat) (s:Str):Int:=(Zag p f s).1
def Ua (p:GProg) (q:GPt):Nat×Nat×Bool:=match Z6 (Zh p p.length).at_ q with
 |some j=>(((Zh p p.length).sites[j]?).map fun x=>(x.2.1,x.2.2,true)).getD (0,0,false)
 |none=>(0,0,false)
theorem Zsr {w:World} (h:MapL lo w m p) (q:GPt):Calls Tryz.prog 173 #[.pointer (some ⟨m,0,none⟩),.agg #[.int .i64 q.1,.int .i64 q.2.1,.int .i64 q.2.2]] w fun e w'=>e=.returned (.tuple #[.int .i64 (Ua p q).1,.int .i64 (Ua p q).2.1,.bool (Ua p q).2.2])/\w.grownBy w' none:=by
 cases hq:Z6 (Zh p p.length).at_ q with
 |none=>
  have:=Zvg h hq;simpa [Ua,hq] using this
 |some j=>
  obtain⟨x,hx,-⟩:=(Jf p (Lf _)).got hq;have:=Zss h hq hx;simpa [Ua,hq,hx] using this
theorem NOk.callArgs {p:GProg} (h:NOk p) {i b k:Nat} {f:GFun} {y:GBlk} {x:GIns} (hf:p[i]?=some f) (hy:f.bk9[b]?=some y) (hx:y.code[k]?=some x) (hc:Yj x.op=true):x.args.length<=8:=by
 have h1:=Zl (show Zq p mpF=none from h 5 (by omega) (by omega)) hf;unfold mpF at h1
 split at h1
 ·cases h1
 ·have h2:=Zl (Zl h1 hy) hx;unfold mpC at h2
  split at h2
  ·cases h2
  ·rename_i h3
   simp only[hc,Bool.true_and,decide_eq_true_eq] at h3;omega
theorem Zog {p:GProg} (h:NOk p) {i:Nat} {x:GFun} (hx:p[i]?=some x):ixK (Zy p p.length) x.name=i/\Zga (Zy p p.length) x.name=true:=by
 rw[Zbp h (Nat.le_refl _),List.take_length];have hil:=(Le hx).1;have hn:=h.ffresh hx;have hp:(p.take i).map (·.name)++[x.name]<+:p.map (·.name):=by
  have e:(p.take (i+1)).map (·.name)=(p.take i).map (·.name)++[x.name]:=by rw[List.take_add_one,hx];simp
  rw[<-e];exact (List.take_prefix _ _).map _
 obtain⟨h1,h2⟩:=Zaw hp (by
  intro hm
  rw[List.contains_iff_mem.2 hm] at hn
  cases hn)
 have hc:(p.map (·.name)).contains x.name=true:=List.contains_iff_mem.2 h2;refine⟨?_,hc⟩;unfold ixK;rw[if_pos hc,h1,List.length_map,List.length_take];omega
theorem Zlx {p:GProg} (h:NOk p) {i b k:Nat} {f:GFun} {y:GBlk} {x:GIns} (hf:p[i]?=some f) (hy:f.bk9[b]?=some y) (hx:y.code[k]?=some x) (hc:x.op=10\/x.op=4):∃ (j:Nat) (g:GFun),p[j]?=some g/\g.name=x.fn/\Xq p x.fn=(j:Int):=by
 have h1:=Qw (show Zcc p=none from h 13 (by omega) (by omega)) hf hy hx;have h2:¬ Xq p x.fn<0:=by
  intro hn
  rcases hc with hc|hc<;>simp[hc,hn] at h1
 unfold Xq at h2 ⊢;unfold idxOf at h2 ⊢
 cases hi:p.findIdx? (fun f=>f.name == x.fn) with
 |none=>rw[hi] at h2;simp at h2
 |some j=>
  obtain⟨hj,hj2,-⟩:=List.findIdx?_eq_some_iff_getElem.1 hi;exact⟨j,p[j],Ld hj,by simpa using hj2,rfl⟩
theorem Zfj {p:GProg} (h:NOk p) {i b k:Nat} {f:GFun} {y:GBlk} {x:GIns} (hf:p[i]?=some f) (hy:f.bk9[b]?=some y) (hx:y.code[k]?=some x) (hc:x.op=10):
  ∃ g,p[ixK (Zy p p.length) x.fn]?=some g/\g.params.length=x.args.length:=by
 obtain⟨j,g,h1,h2,h3⟩:=Zlx h hf hy hx (.inl hc);have h4:=Qw (show Zgr p=none from h 14 (by omega) (by omega)) hf hy hx;simp only[hc,beq_self_eq_true,Bool.true_and,h3,Int.natCast_nonneg,decide_true,Vi,Int.toNat_natCast,h1,Option.map_some,Option.getD_some,Bool.not_eq_false',beq_iff_eq] at h4;refine⟨g,?_,h4⟩;rw[<-h2,(Zog h h1).1];exact h1
def isV (s:Str):Bool:= !s.isEmpty&& !(s == nought)
theorem vars_ne {p:GProg} {x:Nat×Str} (hx:x∈(Zh p p.length).vars) (h:NOk p):x.2≠[]:=by
 obtain⟨-,f,hf,h2⟩:=Ql (Lf _) x hx
 rcases h2 with h2|⟨q,-,h3,h4⟩
 ·exact (U0 (h.pname hf x.2 h2)).2
 ·rw[h4];exact h3
theorem vN_none {p:GProg} (h:NOk p) (i:Nat) {s:Str} (hs:isV s=false):vN p i s= -1:=by
 unfold vN Zag
 split
 ·split
  ·rfl
  ·rename_i hn
   have he:s=[]:=by
    cases s with
    |nil=>rfl
    |cons a l=>simp[isV,hn] at hs
   subst he
   split
   ·rename_i hk
    exact absurd rfl (vars_ne (List.contains_iff_mem.1 hk) h)
   ·rfl
 ·rfl
theorem vN_some {p:GProg} {i:Nat} {s:Str} (hi:i<p.length) (hs:isV s=true) (hm:(i,s)∈(Zh p p.length).vars):0<=vN p i s/\vN p i s<(Zh p p.length).vars.length:=by
 have hn:s≠nought:=by
  rintro rfl;simp[isV] at hs
 have:=List.idxOf_lt_length_iff.2 hm;unfold vN;rw[Zhc hi hn hm];simp only;omega
theorem dst_mem {p:GProg} (h:NOk p) {i b k:Nat} {f:GFun} {y:GBlk} {x:GIns} (hf:p[i]?=some f) (hy:f.bk9[b]?=some y) (hx:y.code[k]?=some x) (hd:x.dst≠[]):(i,x.dst)∈(Zh p p.length).vars:=by
 obtain⟨-,-,-,h5,-⟩:=Zut h hf hy hx rfl rfl;exact (h5 hd).1.2
theorem Zqb {p:GProg} (h:NOk p) {i b k:Nat} {f:GFun} {y:GBlk} {x:GIns} (hf:p[i]?=some f) (hy:f.bk9[b]?=some y) (hx:y.code[k]?=some x):
  (x.dst≠[]/\0<=vN p i x.dst/\vN p i x.dst<(Zh p p.length).vars.length)\/(x.dst=[]/\vN p i x.dst= -1):=by
 by_cases hd:x.dst=[]
 ·exact .inr ⟨hd,vN_none h i (by rw[hd];rfl)⟩
 ·refine .inl ⟨hd,vN_some (Le hf).1 ?_ (dst_mem h hf hy hx hd)⟩;have:=(U0 (h.dname hf hy hx hd)).1
  cases hx:x.dst with
  |nil=>exact absurd hx hd
  |cons a l=>rw[hx] at this;simp[isV,this]
end
theorem Zjs {p:GProg} (h:NOk p):CpOk p:=by
 have hat:∀ f∈p,∃ i,p[i]?=some f:=fun f hf=>by
  obtain⟨i,hi,e⟩:=List.mem_iff_getElem.1 hf;exact⟨i,by rw[<-e];exact Ld hi⟩
 refine⟨fun e=>?_,by have:=h.funcs;omega,fun f hf=>?_,fun f hf=>?_,fun f hf y hy=>?_⟩
 ·have:=h.funcs;rw[e] at this;simp at this
 ·obtain⟨i,hi⟩:=hat f hf;have:=h.params hi;omega
 ·obtain⟨i,hi⟩:=hat f hf;have:=h.bk9 hi;exact⟨fun e=>by rw[e] at this;simp at this,by omega⟩
 ·obtain⟨i,hi⟩:=hat f hf;obtain⟨b,hb,e⟩:=List.mem_iff_getElem.1 hy;have hy':f.bk9[b]?=some y:=by rw[<-e];exact Ld hb
  have:=h.code hi hy';exact⟨(h.ends hi hy').1,by omega⟩
theorem Jt {p:GProg} (h:(Y5 p).1=0):NOk p:=(Zkb (by
 by_cases h0:(Yc p).1=0
 ·exact h0
 ·exact absurd (by rw[<-Qm h0];exact h) h0)).2
theorem Zph {p:GProg} (h:(Y5 p).1=0):SOk p:=Zwe (by
 by_cases h0:(Yc p).1=0
 ·exact h0
 ·exact absurd (by rw[<-Qm h0];exact h) h0) h
section
open Go.RowKit Go.Shelf
variable {lo:Nat} {w:World} {m:Nat} {p:GProg}
def insV (z:GIns) (va vl:Value):Value:=.agg #[.int .u8 z.op,.string ⟨z.dst.toArray⟩,.string ⟨z.a.toArray⟩,.string ⟨z.b.toArray⟩,.int .i64 z.n,.string ⟨z.fn.toArray⟩,va,vl]
theorem U4 {g:Nat} {X Y:World} (h:Chg (fun n=>n=g) X Y) (i:Nat) (v:Value):Chg (fun n=>n=g) X (Y.setCell ⟨g,i,none⟩ v):=
 h.trans (Chg.set (Q:=fun n=>n=g) Y (p:=⟨g,i,none⟩) rfl v) (fun _ _ e=>e)
theorem chg8 (g:Nat) (X:World) (a0 a1 a2 a3 a4 a5 a6 a7:Value):Chg (fun n=>n=g) X ((((((((X.setCell ⟨g,0,none⟩ a0).setCell ⟨g,1,none⟩ a1).setCell ⟨g,2,none⟩ a2).setCell ⟨g,3,none⟩ a3).setCell ⟨g,4,none⟩ a4).setCell ⟨g,5,none⟩ a5).setCell ⟨g,6,none⟩ a6).setCell ⟨g,7,none⟩ a7):=by
 exact U4 (U4 (U4 (U4 (U4 (U4 (U4 (U4 (Chg.refl _ _) 0 a0) 1 a1) 2 a2) 3 a3) 4 a4) 5 a5) 6 a6) 7 a7
theorem Zay (h:MapL lo w m p) {f b k:Nat} {x:GFun} {y:GBlk} {z:GIns} (hf:p[f]?=some x) (hy:x.bk9[b]?=some y) (hz:y.code[k]?=some z):
  Calls Tryz.prog 26 #[.pointer (some ⟨m,0,none⟩),.agg #[.int .i64 f,.int .i64 b,.int .i64 k]] w fun e w'=>∃ A d A' d',e=.returned (.tuple #[insV z (.slice A z.args.length d) (.slice A' z.lb9.length d'),.bool true])/\
   InsS w.heap.size w' z (.slice A z.args.length d) (.slice A' z.lb9.length d')/\w.grownBy w' none:=by
 have hfl:=(Le hf).1;have hbl:=(Le hy).1;have hkl:=(Le hz).1;obtain⟨W,hW⟩:∃ W:World,W=(w.alloc (.cells #[.int .i64 f,.int .i64 b,.int .i64 k] 41)).alloc (.cells #[.int .u8 0,.string ⟨#[]⟩,.string ⟨#[]⟩,.string ⟨#[]⟩,.int .i64 0,.string ⟨#[]⟩,.slice none 0 0,.slice none 0 0] 25):=⟨_,rfl⟩
 have hgW:w.grownBy W none:=by rw[hW];exact Zd (Lc w _ none) _
 have hN:=Zaz (h.grown hgW) f;rw[decide_eq_true (show 0<=(f:Int)/\(f:Int)<p.length by omega)] at hN;obtain⟨A,c,vt,ft,mb,AS,cS,AO,cO,AP,cP,h⟩:=h.open_;have c0:w.cell? ⟨m,0,none⟩=some (.slice A p.length c):=(Za h.blk).1 0;have hml:=Ze h.blk;obtain⟨A5,c5,e5,hl1,hl2,-,hA⟩:=h.prog.open_;obtain⟨rfl,rfl⟩:A5=A/\c5=c:=by simp only[Value.slice.injEq] at e5;exact⟨e5.1.symm,e5.2.2.symm⟩
 obtain⟨x',bF,offF,hx',rfl,hbF,hr⟩:=hA.at_ hfl;obtain rfl:x=x':=by rw[hf] at hx';injection hx'
 obtain⟨A1,d1,A2,d2,hfa,m1,m2,e0,e1,e2⟩:=Yh hr;obtain⟨y',bB,offB,hy',rfl,hbB,hyr⟩:=hfa.bk9.at_ hbl;obtain rfl:y=y':=by rw[hy] at hy';injection hy'
 obtain⟨vc,hyb,y0,y1⟩:=hyr;obtain⟨A6,d6,rfl,o1,o2,o3,hC⟩:=hyb.code.open_;obtain⟨z',bC,offC,hz',rfl,hbC,hzr⟩:=hC.at_ hkl;obtain rfl:z=z':=by rw[hz] at hz';injection hz'
 obtain⟨va,vl,hzi,z0,z1,z2,z3,z4,z5,z6,z7⟩:=hzr;obtain⟨A7,d7,rfl,-,-,-,-⟩:=hzi.args.open_;obtain⟨A8,d8,rfl,-,-,-,-⟩:=hzi.lb9.open_;obtain⟨b3,hb3e⟩:∃ b3,b3=w.heap.size:=⟨_,rfl⟩
 obtain⟨b4,hb4e⟩:∃ b4,b4=w.heap.size+1:=⟨_,rfl⟩
 have hb3:W.heap[b3]?=some (.cells #[.int .i64 f,.int .i64 b,.int .i64 k] 41 (0,0)):=by rw[hW,hb3e];exact Zc (La w _) _
 have hb4:W.heap[b4]?=some (.cells #[.int .u8 0,.string ⟨#[]⟩,.string ⟨#[]⟩,.string ⟨#[]⟩,.int .i64 0,.string ⟨#[]⟩,.slice none 0 0,.slice none 0 0] 25 (0,0)):=by
  have:=La (w.alloc (.cells #[.int .i64 f,.int .i64 b,.int .i64 k] 41)) (.cells #[.int .u8 0,.string ⟨#[]⟩,.string ⟨#[]⟩,.string ⟨#[]⟩,.int .i64 0,.string ⟨#[]⟩,.slice none 0 0,.slice none 0 0] 25);rw[World.size_alloc] at this;rw[hW,hb4e];exact this
 have hsW:W.heap.size=w.heap.size+2:=by rw[hW];simp
 have HS:=hid (show ∀ W':World,W.grownBy W' none->W'.cell? ⟨b3,0,none⟩=some (.int .i64 f)/\W'.cell? ⟨m,0,none⟩=some (.slice (some ⟨bF,offF,none⟩) p.length c5)/\W'.cell? ⟨bF,offF+f*3,none⟩=some (.string ⟨x.name.toArray⟩)/\W'.cell? ⟨bF,offF+f*3+1,none⟩=some (.slice A1 x.params.length d1)/\W'.cell? ⟨bF,offF+f*3+2,none⟩=some (.slice (some ⟨bB,offB,none⟩) x.bk9.length d2) from fun W' hg=>by
  have hb:=Zk (Zb hgW hg)
  exact⟨(Lj (hg.block b3 (Ze hb3) (by simp))).trans ((Za hb3).1 0),cur hb hml c0,cur hb hbF e0,cur hb hbF e1,cur hb hbF e2⟩)
 have HT:=hid (show ∀ W':World,Chg (fun n=>n=b4) W W'->W'.cell? ⟨b3,1,none⟩=some (.int .i64 b)/\W'.cell? ⟨b3,2,none⟩=some (.int .i64 k)/\W'.cell? ⟨bB,offB+b*2+1,none⟩=some (.slice (some ⟨bC,offC,none⟩) y.code.length d6)/\
                   (W'.cell? ⟨bC,offC+k*8,none⟩=some (.int .u8 z.op)/\W'.cell? ⟨bC,offC+k*8+1,none⟩=some (.string ⟨z.dst.toArray⟩)/\W'.cell? ⟨bC,offC+k*8+2,none⟩=some (.string ⟨z.a.toArray⟩)/\W'.cell? ⟨bC,offC+k*8+3,none⟩=some (.string ⟨z.b.toArray⟩)/\W'.cell? ⟨bC,offC+k*8+4,none⟩=some (.int .i64 z.n)/\W'.cell? ⟨bC,offC+k*8+5,none⟩=some (.string ⟨z.fn.toArray⟩)/\W'.cell? ⟨bC,offC+k*8+6,none⟩=some (.slice A7 z.args.length d7)/\W'.cell? ⟨bC,offC+k*8+7,none⟩=some (.slice A8 z.lb9.length d8)) from fun W' hg=>by
                    have hc:=(Chg.grown (Q:=fun n=>n=b4) hgW (fun r e=>by cases e)).trans hg (fun _ _ e=>e)
                    have hb:Below w.heap.size w W':=⟨hc.os,hc.tape,hc.output,hc.size,fun n hn=>hc.block n hn (by show ¬ n=b4;omega)⟩
                    have hn3:¬ b3=b4:=by omega
                    exact⟨(Lj (hg.block b3 (Ze hb3) hn3)).trans ((Za hb3).1 1),(Lj (hg.block b3 (Ze hb3) hn3)).trans ((Za hb3).1 2),cur hb hbB y1,cur hb hbC z0,cur hb hbC z1,cur hb hbC z2,cur hb hbC z3,cur hb hbC z4,cur hb hbC z5,cur hb hbC z6,cur hb hbC z7⟩)
 have HI:=hid (show ∀ W':World,W.grownBy W' none->InsAt W' w.heap.size z (.slice A7 z.args.length d7) (.slice A8 z.lb9.length d8) from fun W' hg=>hzi.below (Zk (Zb hgW hg)) (Lf _));have HgW:=hid hgW;have HsW:=hid hsW;have Hb4:=hid hb4;have HbE:=hid (And.intro hb3e hb4e);clear hb3e hb4e;have hd1:¬ ((b:Int)<0):=by omega
 have hd2:¬ ((k:Int)<0):=by omega
 obtain⟨q3,-,-,-,-⟩:=HS.out W (Lb _ _);obtain⟨r3,s3,-⟩:=HT.out W (.refl _ _);clear h hA e5 c0 hml hr hfa e0 e1 e2 hyb y0 y1 hC hzi z0 z1 z2 z3 z4 z5 z6 z7 hb3 hb4 hsW hgW hx' hy' hz' hf hy hz m1 m2 o1;go_enter Tryz.func26,Tryz.ntmps26;go_upto_region 1 with (fail)
 rw[<-hW,<-HbE.out.2,<-HbE.out.1];clear hW;go_upto_region 3 with (first|(go_at_call 72;refine hN.mono ?_;rintro e w1 ⟨rfl,rfl⟩))
 have hs0:=HS.out W.drew (Zf (Lb _ _));clear q3 r3 s3;go_cut [6] (fun s6 wx=>s6=.pointer (some ⟨W.heap.size,0,none⟩)/\wx=(W.alloc (.cells #[.string ⟨x.name.toArray⟩,.slice A1 x.params.length d1,.slice (some ⟨bB,offB,none⟩) x.bk9.length d2] 37)).drew)
 case first=>
  go_region_held3 (fun W'=>W'.cell? ⟨b3,0,none⟩=some (.int .i64 f)/\W'.cell? ⟨m,0,none⟩=some (.slice (some ⟨bF,offF,none⟩) p.length c5)/\W'.cell? ⟨bF,offF+f*3,none⟩=some (.string ⟨x.name.toArray⟩)/\W'.cell? ⟨bF,offF+f*3+1,none⟩=some (.slice A1 x.params.length d1)/\W'.cell? ⟨bF,offF+f*3+2,none⟩=some (.slice (some ⟨bB,offB,none⟩) x.bk9.length d2))
   (first|exact hs0|exact HS.out _ (Zd (Zf (Lb _ _)) _)|exact HS.out _ (Zi (Zi (Zi (Zd (Zf (Lb _ _)) _) (by simp) _) (by simp) _) (by simp) _)) (fail)
  all_goals (go_wp2_with fail;go_meet)
  all_goals exact⟨rfl,rfl⟩
 case rest=>
  obtain⟨rfl,hwc⟩:=hcut;obtain⟨b6,hb6e⟩:∃ b6,b6=W.heap.size:=⟨_,rfl⟩
  have hb6:wc.heap[b6]?=some (.cells #[.string ⟨x.name.toArray⟩,.slice A1 x.params.length d1,.slice (some ⟨bB,offB,none⟩) x.bk9.length d2] 37 (0,0)):=by rw[hwc,hb6e];exact La W _
  have hgc:W.grownBy wc none:=by rw[hwc];exact Zf (Lc W _ none)
  have hn64:¬ b6=b4:=by have:=HbE.out;have:=HsW.out;omega
  have H6:=hid (show ∀ W':World,Chg (fun n=>n=b4) wc W'->W'.cell? ⟨b6,2,none⟩=some (.slice (some ⟨bB,offB,none⟩) x.bk9.length d2)/\_ from fun W' hc=>⟨(Lj (hc.block b6 (Ze hb6) hn64)).trans ((Za hb6).1 2),HT.out W' ((Chg.grown (Q:=fun n=>n=b4) hgc (fun r e=>by cases e)).trans hc (fun _ _ e=>e))⟩);rw[<-hb6e];have hb4c:=(hgc.block b4 (Ze Hb4.out) (by simp)).trans Hb4.out;have Hb4c:=hid hb4c;have Hgc:=hid hgc;have hcp:=hid (fun (W':World) (hg:wc.grownBy W' none)=>Zfo z _ _ W' w.heap.size (HI.out W' (Zb hgc hg)) (by have:=HsW.out;have:=hgc.size;have:=hg.size;omega));obtain⟨g2,g31,g32,gB,-⟩:=H6.out wc (.refl _ _);clear hwc hb6e hb6 hgc hs0 hb4c;go_upto_region 4 with (fail)
  go_quiet (fail);go_upto_region 6 with (fail)
  clear g2 g31 g32 gB;obtain⟨wd,hwd⟩:∃ wd,wd=wc.drewN nq:=⟨_,rfl⟩
  have hgd:wc.grownBy wd.drew none:=by rw[hwd];exact Zf (Zg (Lb wc none) _)
  have hs6:=H6.out wd.drew (Chg.grown (Q:=fun n=>n=b4) hgd (fun r e=>by cases e));rw[<-hwd];clear hwd;go_cut [5] (fun s5 wx=>s5=.bool true/\∃ A d A' d',wx.heap[b4]?=some (.cells #[.int .u8 z.op,.string ⟨z.dst.toArray⟩,.string ⟨z.a.toArray⟩,.string ⟨z.b.toArray⟩,.int .i64 z.n,.string ⟨z.fn.toArray⟩,.slice A z.args.length d,.slice A' z.lb9.length d'] 25 (0,0))/\Hid (InsS w.heap.size wx z (.slice A z.args.length d) (.slice A' z.lb9.length d'))/\Hid (w.grownBy wx none))
  case first=>
   refine wp_region_held_drew (S:=(fun W'=>W'.cell? ⟨b6,2,none⟩=some (.slice (some ⟨bB,offB,none⟩) x.bk9.length d2)/\W'.cell? ⟨b3,1,none⟩=some (.int .i64 b)/\W'.cell? ⟨b3,2,none⟩=some (.int .i64 k)/\W'.cell? ⟨bB,offB+b*2+1,none⟩=some (.slice (some ⟨bC,offC,none⟩) y.code.length d6)/\W'.cell? ⟨bC,offC+k*8,none⟩=some (.int .u8 z.op)/\W'.cell? ⟨bC,offC+k*8+1,none⟩=some (.string ⟨z.dst.toArray⟩)/\W'.cell? ⟨bC,offC+k*8+2,none⟩=some (.string ⟨z.a.toArray⟩)/\W'.cell? ⟨bC,offC+k*8+3,none⟩=some (.string ⟨z.b.toArray⟩)/\W'.cell? ⟨bC,offC+k*8+4,none⟩=some (.int .i64 z.n)/\W'.cell? ⟨bC,offC+k*8+5,none⟩=some (.string ⟨z.fn.toArray⟩)/\W'.cell? ⟨bC,offC+k*8+6,none⟩=some (.slice A7 z.args.length d7)/\W'.cell? ⟨bC,offC+k*8+7,none⟩=some (.slice A8 z.lb9.length d8))) (by kernel_rfl) hs6 (fun hHeld=>?_);refine Yb (i:=0) (v:=?v1) rfl (by kernel_rfl) (by kernel_rfl) (by kernel_rfl) (fun _ _ _ h=>h) (Or.inl ⟨by rfl,?hy1⟩) hHeld ?rest1
   case hy1=>(intro w hSw;(try dsimp only at hSw);go_simp;(try with_reducible rfl))
   try simp only[Act.put,Lg,Lh,Li]
   refine Yb (i:=1) (v:=?v2) rfl (by kernel_rfl) (by kernel_rfl) (by kernel_rfl) (fun _ _ _ h=>h) (Or.inl ⟨by rfl,?hy2⟩) hHeld ?rest2
   case hy2=>(intro w hSw;(try dsimp only at hSw);go_simp;(try with_reducible rfl))
   try simp only[Act.put,Lg,Lh,Li]
   refine Yb (i:=2) (v:=?v3) rfl (by kernel_rfl) (by kernel_rfl) (by kernel_rfl) (fun _ _ _ h=>h) (Or.inl ⟨by rfl,?hy3⟩) hHeld ?rest3
   case hy3=>(intro w hSw;(try dsimp only at hSw);go_simp;(try with_reducible rfl))
   try simp only[Act.put,Lg,Lh,Li]
   refine Yb (i:=3) (v:=?v4) rfl (by kernel_rfl) (by kernel_rfl) (by kernel_rfl) (fun _ _ _ h=>h) (Or.inl ⟨by rfl,?hy4⟩) hHeld ?rest4
   case hy4=>(intro w hSw;(try dsimp only at hSw);go_simp;(try with_reducible rfl))
   try simp only[Act.put,Lg,Lh,Li]
   refine Yb (i:=4) (v:=?v5) rfl (by kernel_rfl) (by kernel_rfl) (by kernel_rfl) (fun _ _ _ h=>h) (Or.inl ⟨by rfl,?hy5⟩) hHeld ?rest5
   case hy5=>(intro w hSw;(try dsimp only at hSw);go_simp;(try with_reducible rfl))
   try simp only[Act.put,Lg,Lh,Li]
   refine Yb (i:=5) (v:=?v6) rfl (by kernel_rfl) (by kernel_rfl) (by kernel_rfl) (fun _ _ _ h=>h) (Or.inl ⟨by rfl,?hy6⟩) hHeld ?rest6
   case hy6=>(intro w hSw;(try dsimp only at hSw);go_simp;(try with_reducible rfl))
   try simp only[Act.put,Lg,Lh,Li]
   refine Yb (i:=6) (v:=?v7) rfl (by kernel_rfl) (by kernel_rfl) (by kernel_rfl) (fun _ _ _ h=>h) (Or.inl ⟨by rfl,?hy7⟩) hHeld ?rest7
   case hy7=>(intro w hSw;(try dsimp only at hSw);go_simp;(try with_reducible rfl))
   try simp only[Act.put,Lg,Lh,Li]
   refine Yb (i:=7) (v:=?v8) rfl (by kernel_rfl) (by kernel_rfl) (by kernel_rfl) (fun _ _ _ h=>h) (Or.inl ⟨by rfl,?hy8⟩) hHeld ?rest8
   case hy8=>(intro w hSw;(try dsimp only at hSw);go_simp;(try with_reducible rfl))
   try simp only[Act.put,Lg,Lh,Li]
   refine Yb (i:=8) (v:=?v9) rfl (by kernel_rfl) (by kernel_rfl) (by kernel_rfl) (fun _ _ _ h=>h) (Or.inl ⟨by rfl,?hy9⟩) hHeld ?rest9
   case hy9=>(intro w hSw;(try dsimp only at hSw);go_simp;(try with_reducible rfl))
   try simp only[Act.put,Lg,Lh,Li]
   refine Yb (i:=9) (v:=?v10) rfl (by kernel_rfl) (by kernel_rfl) (by kernel_rfl) (fun _ _ _ h=>h) (Or.inl ⟨by rfl,?hy10⟩) hHeld ?rest10
   case hy10=>(intro w hSw;(try dsimp only at hSw);go_simp;(try with_reducible rfl))
   try simp only[Act.put,Lg,Lh,Li]
   refine Yb (i:=10) (v:=?v11) rfl (by kernel_rfl) (by kernel_rfl) (by kernel_rfl) (fun _ _ _ h=>h) (Or.inl ⟨by rfl,?hy11⟩) hHeld ?rest11
   case hy11=>(intro w hSw;(try dsimp only at hSw);go_simp;(try with_reducible rfl))
   try simp only[Act.put,Lg,Lh,Li]
   refine doH (i:=11) (by kernel_rfl) rfl (fun K' hK=>?_);go_simp;go_at_call 73;refine (hcp.out _ hgd).mono ?_;rintro e w6 ⟨A9,d9,A10,d10,rfl,hI6,hg6⟩;have hgd6:=Zb hgd hg6;have hb46:=(hgd6.block b4 (Ze Hb4c.out) (by simp)).trans Hb4c.out;have hs7:=H6.out w6 (Chg.grown (Q:=fun n=>n=b4) hgd6 (fun r e=>by cases e));refine hK.out _ _ hs7 (fun _=>?_)
   try simp only[Act.put,Lg,Lh,Li]
   obtain⟨kx,fx⟩:=Za hb46;have fx0:=fx 0;have fx1:=fx 1;have fx2:=fx 2;have fx3:=fx 3;have fx4:=fx 4;have fx5:=fx 5;have fx6:=fx 6;have fx7:=fx 7;have kx0:=kx 0;have kx1:=kx 1;have kx2:=kx 2;have kx3:=kx 3;have kx4:=kx 4;have kx5:=kx 5;have kx6:=kx 6;have kx7:=kx 7;clear kx fx hs7;refine doH (i:=12) (by kernel_rfl) rfl (fun K' hK=>?_);go_simp;have hc8:=chg8 b4 w6 (.int .u8 z.op) (.string ⟨z.dst.toArray⟩) (.string ⟨z.a.toArray⟩) (.string ⟨z.b.toArray⟩) (.int .i64 z.n) (.string ⟨z.fn.toArray⟩) (.slice A9 z.args.length d9) (.slice A10 z.lb9.length d10);have hs8:=H6.out _ ((Chg.grown (Q:=fun n=>n=b4) hgd6 (fun r e=>by cases e)).trans hc8 (fun _ _ e=>e));refine hK.out _ _ hs8 (fun hHeld=>?_)
   try simp only[Act.put,Lg,Lh,Li]
   refine Yb (i:=13) (v:=?v13) rfl (by kernel_rfl) (by kernel_rfl) (by kernel_rfl) (fun _ _ _ h=>h) (Or.inl ⟨by rfl,?hy13⟩) hHeld ?rest13
   case hy13=>(intro w hSw;(try dsimp only at hSw);go_simp;(try with_reducible rfl))
   try simp only[Act.put,Lg,Lh,Li]
   refine wpAnyH_done (by kernel_rfl) ?_ _;go_wp2_with fail;go_meet;have hb8:(set8 w6 b4 (.int .u8 z.op) (.string ⟨z.dst.toArray⟩) (.string ⟨z.a.toArray⟩) (.string ⟨z.b.toArray⟩) (.int .i64 z.n) (.string ⟨z.fn.toArray⟩) (.slice A9 z.args.length d9) (.slice A10 z.lb9.length d10)).heap[b4]?=_:=Zgt hb46 (.int .u8 z.op) (.string ⟨z.dst.toArray⟩) (.string ⟨z.a.toArray⟩) (.string ⟨z.b.toArray⟩) (.int .i64 z.n) (.string ⟨z.fn.toArray⟩) (.slice A9 z.args.length d9) (.slice A10 z.lb9.length d10);have hgw6:=Zb HgW.out (Zb Hgc.out hgd6);have hbe:=HbE.out;have hsd:w.heap.size+2<=wd.drew.heap.size:=by have:=HsW.out;have:=(Zb Hgc.out hgd).size;omega
   refine⟨rfl,A9,d9,A10,d10,hb8,hid (fun W' B' hs=>hI6 W' B' ((SupI.mono hs (by omega)).chg hc8 (fun n h1 _ e=>by omega))),hid (Y3 hgw6 (Zgu w6 b4 (.int .u8 z.op) (.string ⟨z.dst.toArray⟩) (.string ⟨z.a.toArray⟩) (.string ⟨z.b.toArray⟩) (.int .i64 z.n) (.string ⟨z.fn.toArray⟩) (.slice A9 z.args.length d9) (.slice A10 z.lb9.length d10)) (fun q e=>by injection e with e;omega))⟩
  case rest=>
   obtain⟨rfl,A9,d9,A10,d10,hb,hI9,hg9⟩:=hcut;obtain⟨kx,-⟩:=Za hb;have kx0:=kx 0;have kx1:=kx 1;have kx2:=kx 2;have kx3:=kx 3;have kx4:=kx 4;have kx5:=kx 5;have kx6:=kx 6;have kx7:=kx 7;go_wp2;refine bodyPost_ret (v:=.tuple #[insV z (.slice A9 z.args.length d9) (.slice A10 z.lb9.length d10),.bool true]) (by simp[results,Tryz.results26,go_sem,insV,kx0,kx1,kx2,kx3,kx4,kx5,kx6,kx7]) rfl ⟨A9,d9,A10,d10,rfl,hI9.out,hg9.out⟩
end

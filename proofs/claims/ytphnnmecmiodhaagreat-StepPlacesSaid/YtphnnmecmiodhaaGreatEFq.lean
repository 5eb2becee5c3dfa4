/- Names that the base lacks. Conditions in it. -/
import Derived.Test.YtphnnmecmiodhaaGreatEIds
import Derived.Test.YtphnnmecmiodhaaGreatEChn
import Derived.Test.YtphnnmecmiodhaaGreatENa
import Derived.Deep.DeepCutAuto
import Derived.Deep.DeepMust
import Derived.OwnWalk
import Derived.Test.YtphnnmecmiodhaaGreatEMet
import Derived.Test.YtphnnmecmiodhaaGreatEStb
import Derived.Test.YtphnnmecmiodhaaGreatEPrg
import Derived.Test.YtphnnmecmiodhaaGreatESnp
import Derived.Test.YtphnnmecmiodhaaGreatEItq
import Derived.Test.YtphnnmecmiodhaaGreatESs
import Derived.Test.YtphnnmecmiodhaaGreatESp
import Derived.Test.YtphnnmecmiodhaaGreatERnc
import Derived.Test.YtphnnmecmiodhaaGreatESf
import Derived.Test.YtphnnmecmiodhaaGreatEKh
import Derived.Test.YtphnnmecmiodhaaGreatELsf
set_option maxHeartbeats 8000000
set_option maxRecDepth 100000
set_option linter.all false
namespace Go.Proofs.YtphnnmecmiodhaaGreat
open Lib(hid)
section
open Go.RowKit Go.Shelf
def KeyLOut (l:List (Nat×Str)) (i:Int) (e:Ending):Prop:=∃ (x:Nat×Str) (e2:Int),e=.returned (.tuple #[.agg #[.int .i64 x.1,.string ⟨x.2.toArray⟩],.int .i64 e2])/\if i<0\/(l.length:Int)<=i then e2≠0 else e2=0/\l[i.toNat]?=some x
end
section
open Go.RowKit Go.Shelf
theorem Yet (l:List (Nat×Str)) (base t M:Nat) (v:Value) (i:Int) (w:World) (h:TabL w base t M v l) (hb:base<=w.heap.size):
  Calls Tryz.prog 87 #[.pointer (some ⟨t,0,none⟩),.int .i64 i] w fun e w'=>KeyLOut l i e/\w.grownBy w' none:=by
 obtain⟨A,c,rfl,-,-,-,-⟩:=Zz h.own;have t1:w.cell? ⟨t,1,none⟩=some (.slice A l.length c):=(Za h.blk).1 1;have htl:=Ze h.blk;have hg:∀ (o1 o2:Obj) (p q:Addr) (a b:Value),w.heap.size<=p.block->w.heap.size<=q.block->w.grownBy ((((w.alloc o1).alloc o2).setCell p a).setCell q b) none:=fun o1 o2 p q a b h1 h2=>Zi (Zi (Zd (Lc w o1 none) o2) h1 a) h2 b
 have Hg:=hid hg;have Hown:=hid h.own;clear hg h
 by_cases h1:i<0
 ·go_enter Tryz.func87,Tryz.ntmps87;go_wp2;obtain⟨r0,_⟩:=Za (Zc (La w (.cells #[.int .i64 0,.string ⟨#[]⟩] 122)) (.cells #[.int .i64 0,.string ⟨#[]⟩] 122));refine bodyPost_ret (v:=.tuple #[.agg #[.int .i64 ((0:Nat):Int),.string ⟨([]:Str).toArray⟩],.int .i64 6]) (by simp[results,Tryz.results87,go_sem,r0]) rfl ⟨⟨(0,[]),6,rfl,?_⟩,?_⟩
  ·rw[if_pos (.inl h1)];decide
  ·exact Zd (Lc w _ none) _
 ·by_cases h2:(l.length:Int)<=i
  ·go_enter Tryz.func87,Tryz.ntmps87;go_wp2;obtain⟨r0,_⟩:=Za (Zc (La w (.cells #[.int .i64 0,.string ⟨#[]⟩] 122)) (.cells #[.int .i64 0,.string ⟨#[]⟩] 122));refine bodyPost_ret (v:=.tuple #[.agg #[.int .i64 ((0:Nat):Int),.string ⟨([]:Str).toArray⟩],.int .i64 6]) (by simp[results,Tryz.results87,go_sem,r0]) rfl ⟨⟨(0,[]),6,rfl,?_⟩,?_⟩
   ·rw[if_pos (.inr h2)];decide
   ·exact Zd (Lc w _ none) _
  ·obtain⟨n,rfl⟩:∃ n:Nat,i=n:=⟨i.toNat,by omega⟩
   have hn:n<l.length:=by omega
   obtain⟨x,hx⟩:∃ x,l[n]?=some x:=⟨_,Ld hn⟩
   obtain⟨g,rfl⟩:∃ g,A=some ⟨g,0,none⟩:=by
    obtain⟨A',c',e1,_,_,h0,h3⟩:=Zz Hown.out;injection e1 with e1 e2 e3
    subst e1
    cases A with
    |none=>have:=(h0 rfl).1;omega
    |some a=>exact⟨a.block,by rw[(h3 a rfl).1]⟩
   obtain⟨_,hgl,_,_,hcell⟩:=Xm Hown.out;have c0:w.cell? ⟨g,n*2,none⟩=some (.int .i64 x.1):=hcell (n*2) _ (by have:=Qz (f:=Yee) (sz:=2) (fun _ _=>rfl) hx (j:=0) (by decide);rw[Nat.add_zero] at this;rw[this];rfl);have c1:w.cell? ⟨g,n*2+1,none⟩=some (.string ⟨x.2.toArray⟩):=hcell (n*2+1) _ (by rw[Qz (f:=Yee) (sz:=2) (fun _ _=>rfl) hx (j:=1) (by decide)];rfl);have hgn:g≠w.heap.size:=by omega
   have hgn2:g≠w.heap.size+1:=by omega
   clear hcell;have Hx:=hid hx;clear hx;go_enter Tryz.func87,Tryz.ntmps87;go_upto_region 6 with (fail)
   obtain⟨W,hW⟩:∃ W:World,W=(w.alloc (.cells #[.int .i64 0,.string ⟨#[]⟩] 122)).alloc (.cells #[.int .i64 0,.string ⟨#[]⟩] 122):=⟨_,rfl⟩
   have hr:W.heap[w.heap.size]?=some (.cells #[.int .i64 0,.string ⟨#[]⟩] 122 (0,0)):=by rw[hW];exact Zc (La w _) _
   have hgW:w.grownBy W none:=by rw[hW];exact Zd (Lc w _ none) _
   have hbW:=Zk hgW;have d0:W.cell? ⟨g,n*2,none⟩=some (.int .i64 x.1):=cur hbW hgl c0;have d1:W.cell? ⟨g,n*2+1,none⟩=some (.string ⟨x.2.toArray⟩):=cur hbW hgl c1;have d2:W.cell? ⟨t,1,none⟩=some (.slice (some ⟨g,0,none⟩) l.length c):=cur hbW htl t1;have r0:W.cell? ⟨w.heap.size,0,none⟩=some (.int .i64 0):=(Za hr).1 0;have r1:W.cell? ⟨w.heap.size,1,none⟩=some (.string ⟨#[]⟩):=(Za hr).1 1;have f0:W.frozen? ⟨w.heap.size,0,none⟩=false:=(Za hr).2 0;have f1:W.frozen? ⟨w.heap.size,1,none⟩=false:=(Za hr).2 1;have hset:=Zs (Zs hr 0 (.int .i64 (x.1:Int))) 1 (.string ⟨x.2.toArray⟩);have HgW:=hid hgW;have Hset:=hid hset;rw[<-hW];clear hW hr hgW hbW c0 c1 t1 hset;go_wp2;have s0:((W.setCell ⟨w.heap.size,0,none⟩ (.int .i64 (x.1:Int))).setCell ⟨w.heap.size,1,none⟩ (.string ⟨x.2.toArray⟩)).cell? ⟨w.heap.size,0,none⟩=some (.int .i64 (x.1:Int)):=(Za Hset.out).1 0;have s1:((W.setCell ⟨w.heap.size,0,none⟩ (.int .i64 (x.1:Int))).setCell ⟨w.heap.size,1,none⟩ (.string ⟨x.2.toArray⟩)).cell? ⟨w.heap.size,1,none⟩=some (.string ⟨x.2.toArray⟩):=(Za Hset.out).1 1;refine bodyPost_ret (v:=.tuple #[.agg #[.int .i64 (x.1:Int),.string ⟨x.2.toArray⟩],.int .i64 0]) (by simp[results,Tryz.results87,go_sem,s0,s1]) rfl ⟨⟨x,0,rfl,?_⟩,?_⟩
   ·rw[if_neg (by omega)];exact⟨rfl,by simpa using Hx.out⟩
   ·exact Zi (Zi HgW.out (Lf _) _) (Lf _) _
end
section
open Go.RowKit Go.Shelf
theorem MapO.ofC {w:World} {m:Nat} {p:GProg} {A:Option Addr} {c vt ft mb:Nat} {AS:Option Addr} {cS:Nat} {AO:Option Addr} {cO:Nat} {AP:Option Addr} {cP:Nat} (h:MapO w m p A c vt ft mb AS cS AO cO AP cP) {o j:Nat} (hx:(Zh p p.length).of[o]?=some j):
  ∃ g,AO=some ⟨g,0,none⟩/\g<w.heap.size/\(Zh p p.length).of.length<=cO/\cO<=maxLen/\w.cell? ⟨g,o,none⟩=some (.int .i64 j):=by
 obtain⟨base,ho⟩:=h.of;have hj:=(Le hx).1;obtain⟨A',c',e,_,_,h0,h1⟩:=Zz ho;injection e with e _ e2
 subst e;subst e2
 cases AO with
 |none=>have:=(h0 rfl).1;omega
 |some a=>
  obtain⟨ha,-,-⟩:=h1 a rfl;rw[ha] at ho ⊢;obtain⟨_,h3,h4,h5,h6⟩:=Xm ho;exact⟨a.block,rfl,h3,h4,h5,h6 o _ (by rw[List.getElem?_map,hx];rfl)⟩
end
section
open Go.RowKit Go.Shelf
variable {lo:Nat} {w:World} {m:Nat} {p:GProg}
theorem Yeg (h:MapL lo w m p):Calls Tryz.prog 61 #[.pointer (some ⟨m,0,none⟩)] w fun e w'=>e=.returned (.int .i64 (Zh p p.length).of.length)/\w=w':=by
 obtain⟨A,c,vt,ft,mb,AS,cS,AO,cO,AP,cP,h⟩:=h.open_;have c5:w.cell? ⟨m,5,none⟩=some (.slice AO (Zh p p.length).of.length cO):=(Za h.blk).1 5;clear h;go_enter Tryz.func61,Tryz.ntmps61;go_wp2;go_ret;exact⟨rfl,rfl⟩
end
section
open Go.RowKit Go.Shelf
variable {lo:Nat} {w:World} {m:Nat} {p:GProg}
theorem Yec (h:MapL lo w m p):Calls Tryz.prog 28 #[.pointer (some ⟨m,0,none⟩)] w fun e w'=>e=.returned (.int .i64 (((Zh p p.length).of.length:Int)+(p.length:Int)))/\w=w':=by
 have hF:=Yeg h;have hN:=Zot h;obtain⟨A,c,vt,ft,mb,AS,cS,AO,cO,AP,cP,h⟩:=h.open_;obtain⟨-,-,-,h4,h5⟩:=h.lens;have hwrap:IntKind.i64.wrap (((Zh p p.length).of.length:Int)+(p.length:Int))=((Zh p p.length).of.length:Int)+(p.length:Int):=by rw[IntKind.wrap_i64];omega
 clear h h4 h5;go_enter Tryz.func28,Tryz.ntmps28;go_wp2_with (first|(go_at_call 61;refine hF.mono ?_;rintro e w1 ⟨rfl,rfl⟩)|(go_at_call 55;refine hN.mono ?_;rintro e w1 ⟨rfl,rfl⟩));go_ret;exact⟨by first|rfl|simp[hwrap],rfl⟩
end
section
open Go.RowKit Go.Shelf
variable {lo:Nat} {w:World} {m:Nat} {p:GProg}
theorem Yek (h:MapL lo w m p) {v:Nat} {x:Nat×Str} (hx:(Zh p p.length).vars[v]?=some x):Calls Tryz.prog 44 #[.pointer (some ⟨m,0,none⟩),.int .i64 v] w fun e w'=>e=.returned (.tuple #[.int .i64 x.1,.string ⟨x.2.toArray⟩,.int .i64 0])/\w.grownBy w' none:=by
 obtain⟨A,c,vt,ft,mb,AS,cS,AO,cO,AP,cP,h⟩:=h.open_;have c1:w.cell? ⟨m,1,none⟩=some (.pointer (some ⟨vt,0,none⟩)):=(Za h.blk).1 1;obtain⟨base,vM,vV,hT,hb⟩:=h.vars;have hL:Calls Tryz.prog 87 #[.pointer (some ⟨vt,0,none⟩),.int .i64 v] w fun e w'=>e=.returned (.tuple #[.agg #[.int .i64 x.1,.string ⟨x.2.toArray⟩],.int .i64 0])/\w.grownBy w' none:=(Yet _ _ _ _ _ v w hT hb).mono fun e w' he=>by
  obtain⟨⟨y,e2,rfl,hc⟩,hg⟩:=he;have hv:=(Le hx).1;rw[if_neg (by omega),Int.toNat_natCast,hx] at hc;obtain⟨rfl,hc⟩:=hc;injection hc with hc
  subst hc;exact⟨rfl,hg⟩
 clear h hT hb hx;go_enter Tryz.func44,Tryz.ntmps44;go_upto_region 6 with (first|(go_at_call 87;refine hL.mono ?_;rintro e w2 ⟨rfl,hg⟩))
 have Hg:=hid hg;clear hg;go_quiet (fail);go_wp2;refine bodyPost_ret (v:=.tuple #[.int .i64 x.1,.string ⟨x.2.toArray⟩,.int .i64 0]) (by simp[results,Tryz.results44,go_sem]) rfl ⟨rfl,?_⟩
 first|exact Zg (Zi (Zi (Zd Hg.out _) (Hg.out.size) _) (Hg.out.size) _) nq|exact Zg (Zd Hg.out _) nq
end
section
open Go.RowKit Go.Shelf
variable {lo:Nat} {w:World} {m:Nat} {p:GProg}
theorem Yeu {p:GProg} {o j:Nat} {x:GPt×Nat×Nat} (ho:(Zh p p.length).of[o]?=some j) (hx:(Zh p p.length).sites[j]?=some x):x.2.1<=o/\o<x.2.1+x.2.2/\x.2.1+x.2.2<=(Zh p p.length).of.length:=by
 have hw:=Jf p (Lf p.length);obtain⟨y,hy,h1,h2⟩:=hw.fs o j ho;rw[hx] at hy;injection hy with hy
 subst hy;have h3:=hw.bs j x hx (x.2.2-1) (by omega);have h4:=(Le h3).1;exact⟨h1,h2,by omega⟩
end
section
open Go.RowKit Go.Shelf
variable {lo:Nat} {w:World} {m:Nat} {p:GProg}
theorem Yeb (h:MapL lo w m p) {f:Nat} (hf:f<p.length):Calls Tryz.prog 45 #[.pointer (some ⟨m,0,none⟩),.int .i64 ((Zh p p.length).of.length+f:Nat)] w fun e w'=>e=.returned (.tuple #[.agg #[.int .i64 0,.int .i64 0,.int .i64 0],.int .i64 0,.int .i64 f,.int .i64 0])/\w.grownBy w' none:=by
 have hO:=Yec (h.grown (Lc w (.cells #[.int .i64 0,.int .i64 0,.int .i64 0] 41) none));obtain⟨A,c,vt,ft,mb,AS,cS,AO,cO,AP,cP,h⟩:=h.open_;obtain⟨-,-,-,l4,l5⟩:=h.lens;obtain⟨nO,hnO⟩:∃ n,n=(Zh p p.length).of.length:=⟨_,rfl⟩
 obtain⟨cm,-⟩:=Za h.blk;have c5:w.cell? ⟨m,5,none⟩=some (.slice AO (Zh p p.length).of.length cO):=cm 5;rw[<-hnO] at c5 hO l4 ⊢;have hml:=Ze h.blk;have hsub:IntKind.i64.wrap (((nO+f:Nat):Int)-(nO:Int))=(f:Int):=by rw[IntKind.wrap_i64];omega
 have hbx:=La w (.cells #[.int .i64 0,.int .i64 0,.int .i64 0] 41);obtain⟨o,ho⟩:∃ o:Nat,o=nO+f:=⟨_,rfl⟩
 rw[<-ho] at hsub ⊢;have hge:nO<=o:=by omega
 have hlt:(o:Int)<(nO:Int)+(p.length:Int):=by omega
 clear h cm hnO ho;go_enter Tryz.func45,Tryz.ntmps45;obtain⟨W,hW⟩:∃ W:World,W=w.alloc (.cells #[.int .i64 0,.int .i64 0,.int .i64 0] 41):=⟨_,rfl⟩
 rw[<-hW] at hO hbx;have hgW:w.grownBy W none:=by rw[hW];exact Lc w _ none
 have HSg:=hid (show ∀ W':World,w.grownBy W' none->W'.cell? ⟨m,5,none⟩=some (.slice AO nO cO) from fun W' hg'=>cur (Zk hg') hml c5);have hs0:=HSg.out W.drew (Zf hgW);have c5W:=HSg.out W hgW;obtain⟨z,fz⟩:=Za hbx;have z0:=z 0;have z1:=z 1;have z2:=z 2;have f0:=fz 0;have f1:=fz 1;have f2:=fz 2;have Hbx:=hid hbx;have HgW:=hid hgW;clear z fz hbx hgW c5;go_upto_region 1 with (fail)
 rw[<-hW];clear hW;go_upto_region 6 with (first|(go_at_call 28;refine hO.mono ?_;rintro e w1 ⟨rfl,rfl⟩))
 go_region_held3 (fun W'=>W'.cell? ⟨m,5,none⟩=some (.slice AO nO cO))
  (first|exact hs0|exact HSg.out _ (Zf HgW.out)|exact HSg.out _ (Zi (Zi (Zi (Zf HgW.out) (by simp) _) (by simp) _) (by simp) _)) (fail)
 have hbd:=Zs (Zs (Zs Hbx.out 0 (.int .i64 0)) 1 (.int .i64 0)) 2 (.int .i64 0);have hgd:w.grownBy (((W.setCell ⟨w.heap.size,0,none⟩ (.int .i64 0)).setCell ⟨w.heap.size,1,none⟩ (.int .i64 0)).setCell ⟨w.heap.size,2,none⟩ (.int .i64 0)).drew none:=Zf (Zi (Zi (Zi HgW.out (by simp) _) (by simp) _) (by simp) _);have hbd':(((W.setCell ⟨w.heap.size,0,none⟩ (.int .i64 0)).setCell ⟨w.heap.size,1,none⟩ (.int .i64 0)).setCell ⟨w.heap.size,2,none⟩ (.int .i64 0)).drew.heap[w.heap.size]?=_:=hbd;obtain⟨Wd,hWd⟩:∃ Wd:World,Wd=(((W.setCell ⟨w.heap.size,0,none⟩ (.int .i64 0)).setCell ⟨w.heap.size,1,none⟩ (.int .i64 0)).setCell ⟨w.heap.size,2,none⟩ (.int .i64 0)).drew:=⟨_,rfl⟩
 rw[<-hWd] at hbd' hgd ⊢;obtain⟨e,-⟩:=Za hbd';have e0:=e 0;have e1:=e 1;have e2:=e 2;have Hgd:=hid hgd;clear hWd hbd hbd' hgd e z0 z1 z2 f0 f1 f2 hs0 HSg;go_wp2;refine bodyPost_ret (v:=.tuple #[.agg #[.int .i64 0,.int .i64 0,.int .i64 0],.int .i64 0,.int .i64 f,.int .i64 0]) (by simp[results,Tryz.results45,go_sem,e0,e1,e2,hsub]) rfl ⟨rfl,Hgd.out⟩
end
section
open Go.RowKit Go.Shelf
variable {lo:Nat} {w:World} {m:Nat} {p:GProg}
theorem Ydz (h:MapL lo w m p) {o j:Nat} {x:GPt×Nat×Nat} (ho:(Zh p p.length).of[o]?=some j) (hx:(Zh p p.length).sites[j]?=some x):Calls Tryz.prog 45 #[.pointer (some ⟨m,0,none⟩),.int .i64 o] w fun e w'=>e=.returned (.tuple #[.agg #[.int .i64 x.1.1,.int .i64 x.1.2.1,.int .i64 x.1.2.2],.int .i64 ((o:Int)-(x.2.1:Int)),.int .i64 (-1),.int .i64 0])/\w.grownBy w' none:=by
 have hO:=Yec (h.grown (Lc w (.cells #[.int .i64 0,.int .i64 0,.int .i64 0] 41) none));obtain⟨A,c,vt,ft,mb,AS,cS,AO,cO,AP,cP,h⟩:=h.open_;obtain⟨l1,l2,l3⟩:=Yeu ho hx;obtain⟨-,-,-,l4,-⟩:=h.lens;obtain⟨cm,-⟩:=Za h.blk;have c3:w.cell? ⟨m,3,none⟩=some (.slice AS (Zh p p.length).sites.length cS):=cm 3;have c5:w.cell? ⟨m,5,none⟩=some (.slice AO (Zh p p.length).of.length cO):=cm 5;obtain⟨g,rfl,hgl,h1,h2,s0,s1,s2,s3,s4⟩:=h.siteC hx;obtain⟨g2,rfl,hgl2,h3,h4,o1⟩:=h.ofC ho;have hj:=(Le hx).1;have hml:=Ze h.blk;obtain⟨nO,hnO⟩:∃ n,n=(Zh p p.length).of.length:=⟨_,rfl⟩
 obtain⟨nS,hnS⟩:∃ n,n=(Zh p p.length).sites.length:=⟨_,rfl⟩
 rw[<-hnO] at c5 hO h3 l3 l4;rw[<-hnS] at c3 h1 hj
 have HSg:=hid (show ∀ W':World,w.grownBy W' none->W'.cell? ⟨m,3,none⟩=some (.slice (some ⟨g,0,none⟩) nS cS)/\W'.cell? ⟨m,5,none⟩=some (.slice (some ⟨g2,0,none⟩) nO cO)/\W'.cell? ⟨g2,o,none⟩=some (.int .i64 j)/\
                    W'.cell? ⟨g,j*5,none⟩=some (.int .i64 x.1.1)/\W'.cell? ⟨g,j*5+1,none⟩=some (.int .i64 x.1.2.1)/\W'.cell? ⟨g,j*5+2,none⟩=some (.int .i64 x.1.2.2)/\W'.cell? ⟨g,j*5+3,none⟩=some (.int .i64 x.2.1)/\W'.cell? ⟨g,j*5+4,none⟩=some (.int .i64 x.2.2) from fun W' hg'=>by
                     have hb:=Zk hg'
                     exact⟨cur hb hml c3,cur hb hml c5,cur hb hgl2 o1,cur hb hgl s0,cur hb hgl s1,cur hb hgl s2,cur hb hgl s3,cur hb hgl s4⟩)
 obtain⟨W,hW⟩:∃ W:World,W=w.alloc (.cells #[.int .i64 0,.int .i64 0,.int .i64 0] 41):=⟨_,rfl⟩
 have hbx:=La w (.cells #[.int .i64 0,.int .i64 0,.int .i64 0] 41);have hgW:w.grownBy W none:=by rw[hW];exact Lc w _ none
 have hWs:W.heap.size=w.heap.size+1:=by rw[hW];simp
 rw[<-hW] at hO hbx;have hs0:=HSg.out W.drew (Zf hgW);obtain⟨c3W,c5W,-⟩:=HSg.out W hgW;obtain⟨rb,hrb⟩:∃ rb,rb=w.heap.size:=⟨_,rfl⟩
 have Hbx:=hid hbx;have HgW:=hid hgW;have HWs:=hid hWs;have w1:IntKind.i64.wrap ((o:Int)-(x.2.1:Int))=(o:Int)-(x.2.1:Int):=by rw[IntKind.wrap_i64];omega
 have hon:o<nO:=by omega
 clear h cm hx ho hnO hnS hbx hgW hWs c3 c5 s0 s1 s2 s3 s4 o1;go_enter Tryz.func45,Tryz.ntmps45;go_upto_region 1 with (fail)
 rw[<-hW,<-hrb];rw[<-hrb] at Hbx HWs;have Hrb:=hid hrb;clear hW hrb;go_upto_region 7 with (first|(go_at_call 28;refine hO.mono ?_;rintro e w1 ⟨rfl,rfl⟩))
 go_cut [8,23] (fun s8 _ wx=>s8=.pointer (some ⟨W.heap.size,0,none⟩)/\wx=(W.alloc (.cells #[.int .i64 x.1.1,.int .i64 x.1.2.1,.int .i64 x.1.2.2,.int .i64 x.2.1,.int .i64 x.2.2] 135)).drew)
 case first=>
  go_region_held3 (fun W'=>W'.cell? ⟨m,3,none⟩=some (.slice (some ⟨g,0,none⟩) nS cS)/\W'.cell? ⟨m,5,none⟩=some (.slice (some ⟨g2,0,none⟩) nO cO)/\W'.cell? ⟨g2,o,none⟩=some (.int .i64 j)/\
                   W'.cell? ⟨g,j*5,none⟩=some (.int .i64 x.1.1)/\W'.cell? ⟨g,j*5+1,none⟩=some (.int .i64 x.1.2.1)/\W'.cell? ⟨g,j*5+2,none⟩=some (.int .i64 x.1.2.2)/\W'.cell? ⟨g,j*5+3,none⟩=some (.int .i64 x.2.1)/\W'.cell? ⟨g,j*5+4,none⟩=some (.int .i64 x.2.2))
   (first|exact hs0|exact HSg.out _ (Zd (Zf HgW.out) _)|exact HSg.out _ (Zi (Zi (Zi (Zi (Zi (Zd (Zf HgW.out) _) (by simp[HWs.out,Hrb.out]) _) (by simp[HWs.out,Hrb.out]) _) (by simp[HWs.out,Hrb.out]) _) (by simp[HWs.out,Hrb.out]) _) (by simp[HWs.out,Hrb.out]) _)) (fail)
  all_goals (go_wp2_with fail;go_meet)
  all_goals exact⟨rfl,rfl⟩
 case rest=>
  obtain⟨rfl,hwc⟩:=hcut;have hb5:wc.heap[W.heap.size]?=some (.cells #[.int .i64 x.1.1,.int .i64 x.1.2.1,.int .i64 x.1.2.2,.int .i64 x.2.1,.int .i64 x.2.2] 135 (0,0)):=by rw[hwc];exact La W _
  have hbr:wc.heap[rb]?=some (.cells #[.int .i64 0,.int .i64 0,.int .i64 0] 41 (0,0)):=by rw[hwc];exact Zc Hbx.out _
  have hgc:w.grownBy wc none:=by rw[hwc];exact Zf (Zd HgW.out _)
  have Hgc:=hid hgc;obtain⟨sb,hsb⟩:∃ sb,sb=W.heap.size:=⟨_,rfl⟩
  rw[<-hsb] at hb5 ⊢;have hne:sb≠rb:=by have:=HWs.out;omega
  have hne2:rb≠sb:=fun e=>hne e.symm
  have Hb5:=hid hb5;have Hbr:=hid hbr
  have HSr:=hid (show ∀ W':World,W'.heap[sb]?=wc.heap[sb]?->W'.cell? ⟨sb,0,none⟩=some (.int .i64 x.1.1)/\W'.cell? ⟨sb,1,none⟩=some (.int .i64 x.1.2.1)/\W'.cell? ⟨sb,2,none⟩=some (.int .i64 x.1.2.2)/\W'.cell? ⟨sb,3,none⟩=some (.int .i64 x.2.1) from fun W' e=>by
   obtain⟨q,-⟩:=Za (e.trans Hb5.out)
   exact⟨q 0,q 1,q 2,q 3⟩)
  have hs1:=HSr.out wc.drew rfl;obtain⟨z,fz⟩:=Za hbr;have z0:=z 0;have z1:=z 1;have z2:=z 2;have f0:=fz 0;have f1:=fz 1;have f2:=fz 2;clear hwc hgc hb5 hbr hsb z fz hs0 HSg c3W c5W;have hC8:=((Chg.set (Q:=fun n=>n=rb) wc (p:=⟨rb,0,none⟩) rfl (.int .i64 x.1.1)).trans (Chg.set (Q:=fun n=>n=rb) _ (p:=⟨rb,1,none⟩) rfl (.int .i64 x.1.2.1)) (fun _ _ e=>e)).trans (Chg.set (Q:=fun n=>n=rb) _ (p:=⟨rb,2,none⟩) rfl (.int .i64 x.1.2.2)) (fun _ _ e=>e);have hS8:=HSr.out _ (hC8.block sb (Ze Hb5.out) hne);have HS8:=hid hS8;clear hC8 hS8;go_upto_region 8 with (fail)
  go_region_held3 (fun W'=>W'.cell? ⟨sb,0,none⟩=some (.int .i64 x.1.1)/\W'.cell? ⟨sb,1,none⟩=some (.int .i64 x.1.2.1)/\W'.cell? ⟨sb,2,none⟩=some (.int .i64 x.1.2.2)/\W'.cell? ⟨sb,3,none⟩=some (.int .i64 x.2.1))
   (first|exact hs1|exact HS8.out) (fail)
  have hbd:=Zs (Zs (Zs Hbr.out 0 (.int .i64 x.1.1)) 1 (.int .i64 x.1.2.1)) 2 (.int .i64 x.1.2.2);have hgd:w.grownBy (((wc.setCell ⟨rb,0,none⟩ (.int .i64 x.1.1)).setCell ⟨rb,1,none⟩ (.int .i64 x.1.2.1)).setCell ⟨rb,2,none⟩ (.int .i64 x.1.2.2)).drew none:=Zf (Zi (Zi (Zi Hgc.out (by simp[Hrb.out]) _) (by simp[Hrb.out]) _) (by simp[Hrb.out]) _);have hbd':(((wc.setCell ⟨rb,0,none⟩ (.int .i64 x.1.1)).setCell ⟨rb,1,none⟩ (.int .i64 x.1.2.1)).setCell ⟨rb,2,none⟩ (.int .i64 x.1.2.2)).drew.heap[rb]?=_:=hbd;obtain⟨Wd,hWd⟩:∃ Wd:World,Wd=(((wc.setCell ⟨rb,0,none⟩ (.int .i64 x.1.1)).setCell ⟨rb,1,none⟩ (.int .i64 x.1.2.1)).setCell ⟨rb,2,none⟩ (.int .i64 x.1.2.2)).drew:=⟨_,rfl⟩
  rw[<-hWd] at hbd' hgd ⊢;obtain⟨e,-⟩:=Za hbd';have e0:=e 0;have e1:=e 1;have e2:=e 2;have Hgd:=hid hgd;clear hWd hbd hbd' hgd e z0 z1 z2 f0 f1 f2 hs1 HSr;go_wp2;refine bodyPost_ret (v:=.tuple #[.agg #[.int .i64 x.1.1,.int .i64 x.1.2.1,.int .i64 x.1.2.2],.int .i64 ((o:Int)-(x.2.1:Int)),.int .i64 (-1),.int .i64 0]) (by simp[results,Tryz.results45,go_sem,e0,e1,e2]) rfl ⟨rfl,Hgd.out⟩
end
section
open Go.RowKit Go.Shelf
variable {wB:Bs} {lo ms:Nat} {vp:Value} {p:GProg} {W W':World} {g:SAd} {s:GM} {l:List GAct} {a:GAct}
theorem Q4 (h:Ma wB ms vp W g s):Calls Tryz.prog 38 #[.pointer (some ⟨g.m,0,none⟩)] W fun e w'=>e=.returned (.int .i64 s.acts.length)/\W=w':=by
 obtain⟨A,c,e,h1,h2,-,-⟩:=Zz h.row;have m2:W.cell? ⟨g.m,2,none⟩=some (.slice A g.av.length c):=by rw[<-e];exact h.cell 2
 rw[h.len] at m2;clear h e h1 h2;go_enter Tryz.func38,Tryz.ntmps38;go_wp2;go_ret;exact⟨rfl,rfl⟩
end
section
open Go.RowKit Go.Shelf
variable {wB:Bs} {lo ms:Nat} {vp:Value} {p:GProg} {W W':World} {g:SAd} {s:GM} {l:List GAct} {a:GAct}
theorem Ztg {w:World} {r:Nat} {vars:List (Int×GVal)} (hb:w.heap[r]?=some (Z7 encZ Yf vars)) (k:Int) {x:GVal} {b:Bool} (hx:x=(Z6 vars k).getD nilV) (hb':b=(Z6 vars k).isSome):
  (Instr.lookup 147 (.map (some r)) (.int .i64 k) true).run Tryz.prog w=.ok (.tuple #[.agg #[.int .u8 x.kind,.int .i64 x.obj,.int .i64 x.n],.bool b]) w:=by
 have h:=Vl (P:=Tryz.prog) (keyZ Tryz.underlying3) Tryz.underlying147 hb k (zeroV w);rw[show encZ k=.int .i64 k from rfl] at h;rw[h,hx,hb']
 cases Z6 vars k<;>rfl
end
section
open Go.RowKit Go.Shelf
variable {wB:Bs} {lo ms:Nat} {vp:Value} {p:GProg} {W W':World} {g:SAd} {s:GM} {l:List GAct} {a:GAct}
theorem Ziw (h:Ma wB ms vp W g s) (ha:s.acts=l++[a]) (k:Int):Calls Tryz.prog 35 #[.pointer (some ⟨g.m,0,none⟩),.int .i64 k] W fun e w'=>e=.returned (.tuple #[Yf ((Z6 a.vars k).getD nilV),.bool (Z6 a.vars k).isSome])/\W.grownBy w' none:=by
 obtain⟨W1,hW1⟩:∃ W1:World,W1=W.alloc (.cells #[.int .u8 0,.int .i64 0,.int .i64 0] 72):=⟨_,rfl⟩
 have hg1:W.grownBy W1 none:=by rw[hW1];exact Lc _ _ _
 have hbv:W1.heap[W.heap.size]?=some (.cells #[.int .u8 0,.int .i64 0,.int .i64 0] 72 (0,0)):=by rw[hW1];exact La _ _
 have h1:=h.grow hg1;have hdp:=Q4 h1;have hne:¬ (s.acts.length:Int)=0:=by rw[ha];simp;omega
 obtain⟨gb,c,ad,e1,e2,e3,e4,e5,c1,c2,c3⟩:=h1.top ha;have ht:=Vo h1 ha e4;have d3:W1.cell? ⟨ad.1,3,none⟩=some (.map (some ad.2)):=(Za c2).1 3;obtain⟨x,hx⟩:∃ x,x=(Z6 a.vars k).getD nilV:=⟨_,rfl⟩
 obtain⟨b,hb⟩:∃ b,b=(Z6 a.vars k).isSome:=⟨_,rfl⟩
 rw[<-hx,<-hb]
 have Hl:=hid (show ∀ w2:World,(∃ n,w2=W1.drewN n)->(Instr.lookup 147 (.map (some ad.2)) (.int .i64 k) true).run Tryz.prog w2=.ok (.tuple #[.agg #[.int .u8 x.kind,.int .i64 x.obj,.int .i64 x.n],.bool b]) w2/\w2.cell? ⟨ad.1,3,none⟩=some (.map (some ad.2))/\W1.grownBy w2 none from fun w2 ⟨n,e⟩=>by
  rw[e]
  exact⟨Ztg (w:=W1.drewN n) c3 k hx hb,d3,Zg (Lb W1 none) n⟩)
 have Hbv:=hid hbv;have Hg1:=hid hg1;clear h h1 hg1 hbv e1 e2 e3 e4 e5 c1 c2 c3 ha hx hb d3;go_enter Tryz.func35,Tryz.ntmps35;go_upto_region 1 with (fail)
 rw[<-hW1];clear hW1;go_upto_region 4 with (first|(go_at_call 38;refine hdp.mono ?_;rintro e w1 ⟨rfl,rfl⟩)|(go_at_call 78;refine ht.mono ?_;rintro e w2 ⟨rfl,hn2⟩;obtain⟨hl,d3,hg2⟩:=Hl.out w2 hn2;have Hg2:=hid hg2;clear hn2 hg2))
 obtain⟨W3,hW3⟩:∃ W3:World,W3=w2.alloc (.cells #[.int .u8 x.kind,.int .i64 x.obj,.int .i64 x.n] 72):=⟨_,rfl⟩
 rw[<-hW3];have hbx:W3.heap[w2.heap.size]?=some (.cells #[.int .u8 x.kind,.int .i64 x.obj,.int .i64 x.n] 72 (0,0)):=by rw[hW3];exact La _ _
 have hg3:W1.grownBy W3 none:=by rw[hW3];exact Zd Hg2.out _
 have hbw:=(hg3.block _ (Ze Hbv.out) (by simp)).trans Hbv.out;have x0:W3.cell? ⟨w2.heap.size,0,none⟩=some (.int .u8 x.kind):=(Za hbx).1 0;have x1:W3.cell? ⟨w2.heap.size,1,none⟩=some (.int .i64 x.obj):=(Za hbx).1 1;have x2:W3.cell? ⟨w2.heap.size,2,none⟩=some (.int .i64 x.n):=(Za hbx).1 2;have b0:=(Za hbw).1 0;have b1:=(Za hbw).1 1;have b2:=(Za hbw).1 2;have f0:=(Za hbw).2 0;have f1:=(Za hbw).2 1;have f2:=(Za hbw).2 2;have Hbw:=hid hbw;have Hg3:=hid (Zb Hg1.out hg3);clear hbw hbx hg3 hW3 hl d3;go_wp2;obtain⟨wf,hwf⟩:∃ wf:World,wf=((W3.setCell ⟨W.heap.size,0,none⟩ (.int .u8 x.kind)).setCell ⟨W.heap.size,1,none⟩ (.int .i64 x.obj)).setCell ⟨W.heap.size,2,none⟩ (.int .i64 x.n):=⟨_,rfl⟩
 rw[<-hwf];have hbf:=hwf▸Y8 Hbw.out (.int .u8 x.kind) (.int .i64 x.obj) (.int .i64 x.n);have u0:=(Za hbf).1 0;have u1:=(Za hbf).1 1;have u2:=(Za hbf).1 2;refine bodyPost_ret (v:=.tuple #[Yf x,.bool b]) (by simp[results,Tryz.results35,go_sem,u0,u1,u2,Yf]) rfl ⟨rfl,?_⟩;rw[hwf];exact Chg.after Hg3.out (Jm _ _ _ _ _ _ _ _) (fun n hn q=>by omega)
end
section
variable {p:GProg} {s:GM}
structure Yei (p:GProg) (s:GM) (x:Int×Nat) (V:GVal) (n:Nat) (t:Str):Prop where
 key:x.1=n
 var:(Zh p p.length).vars[n]?=some (s.top.pt.1,t)
 val:Z6 s.top.vars x.1=some V
 obj:(V.kind=2/\V.n<p.length/\x.2=(Zh p p.length).of.length+V.n)\/(V.kind=1/\x.2<(Zh p p.length).of.length)
end
section
variable {p:GProg} {s:GM}
theorem Yfd (K:GMOk p s) (N:KeysNd s) (h0:s.stop=0) {x:Int×Nat} (hm:x∈s.top.vars.filterMap (Zwr p s.heap)):∃ V n t,Yei p s x V n t:=by
 obtain⟨l,a,ha⟩:=Zfc (s:=s) fun e=>by have:=K.done.1 e;omega
 have hA:=K.acts a (by rw[ha];simp);rw[X1 ha] at hm;obtain⟨q,hq,e⟩:=List.mem_filterMap.1 hm;have hg:=Zwz (N a (by rw[ha];simp)) (show (q.1,q.2)∈a.vars from hq);have hk1:=Zwy e;obtain⟨hv,n,t,e1,e2⟩:=hA.vals q.1 q.2 hg;unfold Zwr at e
 cases hf:Zws p s.heap q.2 with
 |none=>rw[hf] at e;cases e
 |some o=>
  rw[hf] at e
  cases e
  refine⟨q.2,n,t,e1,by rw[X1 ha];exact e2,by rw[X1 ha];exact hg,?_⟩;unfold Zws at hf
  split at hf
  ·rename_i h2
   cases hf
   rcases hv with h|h|h
   ·rw[h] at h2;exact absurd h2 (by decide)
   ·omega
   ·exact .inl ⟨h2,h.2.2,rfl⟩
  ·split at hf
   ·rename_i h2 h3
    cases hf
    right;unfold Yi at h3
    split at h3
    ·omega
    ·rename_i h4
     have h4':q.2.kind=1:=by omega
     refine⟨h4',?_⟩
     split at h3
     ·rename_i h5
      unfold Kv at h5
      cases ho:s.heap[q.2.obj]? with
      |none=>rw[ho] at h5;cases h5
      |some ob=>
       rw[ho,Option.bind_some] at h5;have hlt:q.2.n<ob.2.length:=by
        rcases Nat.lt_or_ge q.2.n ob.2.length with h|h
        ·exact h
        ·rw[List.getElem?_eq_none h] at h5
         cases h5
       have:=K.heap.fld ob (Ll ho);show Zwv s.heap q.2<_;unfold Zwv;rw[ho];simp only[Option.map_some,Option.getD_some];omega
     ·omega
   ·cases hf
end
section
variable {p:GProg} {s:GM}
theorem fact_ok (K:GMOk p s) (N:KeysNd s) (h0:s.stop=0) {L:List (Int×Nat)} (hL:Yau p s.heap s.top.vars L) {k:Nat} {x:Int×Nat} (hk:L[k]?=some x):∃ V n t,Yei p s x V n t:=
 Yfd K N h0 (hL.1.mem_iff.1 (Ll hk))
end
section
variable {p:GProg} {s:GM}
theorem Yeq {L:List (Int×Nat)} (hL:L.Pairwise fun x y=>x.1<y.1) {k:Nat} {x y:Int×Nat} (hx:L[k]?=some x) (hy:L[k+1]?=some y):x.1<y.1:=by
 obtain⟨h1,e1⟩:=Le hx;obtain⟨h2,e2⟩:=Le hy;rw[<-e1,<-e2];exact List.pairwise_iff_getElem.1 hL k (k+1) h1 h2 (by omega)
end
section
variable {p:GProg} {s:GM}
theorem Yeo {lo m:Nat} {w:World} (h:MapL lo w m p) {x:Int×Nat} {V:GVal} {n:Nat} {t:Str} (F:Yei p s x V n t):∃ (q:GPt) (u f:Int),(Calls Tryz.prog 45 #[.pointer (some ⟨m,0,none⟩),.int .i64 x.2] w fun e w'=>e=.returned (.tuple #[.agg #[.int .i64 q.1,.int .i64 q.2.1,.int .i64 q.2.2],.int .i64 u,.int .i64 f,.int .i64 0])/\w.grownBy w' none)/\((V.kind=2/\f=V.n)\/(V.kind=1/\f= -1)):=by
 rcases F.obj with ⟨h1,h2,h3⟩|⟨h1,h2⟩
 ·refine⟨(0,0,0),0,V.n,?_,.inl ⟨h1,rfl⟩⟩;rw[h3];exact Yeb h h2
 ·obtain⟨y,hy,-,-⟩:=(Jf p (Lf p.length)).fs x.2 _ (Ld h2);exact⟨y.1,_,-1,Ydz h (Ld h2) hy,.inr ⟨h1,rfl⟩⟩
end
section
def atS (f:GFun) (s:Str) (i:Nat):Bool:=if (Yy f s).1=0 then decide ((Yy f s).2<i) else (decide (s=nought)||decide ((Yy f s).1<0))
end
section
def Zde (f:GFun):Bool:=f.bk9.length == 1&&f.bk9.all fun y=>y.code.zipIdx.all fun q=> !(q.1.op == 6)&& !(q.1.lb9.contains (Ziq f))&&(Kj q.1).all fun s=>atS f s q.2
end
section
theorem atS_at {f:GFun} {s:Str} {i:Nat} (h:atS f s i=true):atB f s 0 i=true:=by
 unfold atS at h;unfold atB
 by_cases hd:(Yy f s).1=0
 ·rw[if_pos hd] at h;rw[if_pos (by simpa using hd)];exact h
 ·rw[if_neg hd] at h;rw[if_neg (by simpa using hd)];unfold Xk;simp only[Bool.or_eq_true,decide_eq_true_eq] at h
  rcases h with h|h
  ·simp[h]
  ·simp[h]
end
section
theorem Zhz {f:GFun} (h:Zde f=true):∀ r∈Yv,U3 f r=none:=by
 simp only[Zde,Bool.and_eq_true,beq_iff_eq,List.all_eq_true] at h;obtain⟨hl,ha⟩:=h;have key:∀ b y,f.bk9[b]?=some y->∀ i x,y.code[i]?=some x->b=0/\(x.op == 6)=false/\x.lb9.contains (Ziq f)=false/\∀ s∈Kj x,atS f s i=true:=by
  intro b y hy i x hx;have hb:=(Le hy).1;have hm:(x,i)∈y.code.zipIdx:=by
   rw[List.mem_zipIdx_iff_getElem?];exact hx
  have h1:=ha y (Ll hy) (x,i) hm;simp only[Bool.and_eq_true,Bool.not_eq_true',List.all_eq_true] at h1;exact⟨by omega,h1.1.1,h1.1.2,h1.2⟩
 intro r hr;simp only[Yv,List.mem_cons,List.not_mem_nil,or_false] at hr
 rcases hr with rfl|rfl|rfl|rfl
 ·show V7 f (Uq f)=none;refine Ja fun b _ y hy=>K9 fun i _ x hx=>?_
  obtain⟨_,_,h3,_⟩:=key b y hy i x hx;unfold Uq;rw[h3,Bool.and_false]
 ·show Xw f=none;unfold Xw;rw[Option.map_eq_none_iff,List.find?_eq_none];intro k hk;have hk0:k=0:=by rw[List.mem_range] at hk;omega
  subst hk0;have:Path (Zv f.bk9) 0 0:=.refl;simp[J1,this]
 ·show V7 f (Zcz f)=none;refine Ja fun b _ y hy=>K9 fun i _ x hx=>?_
  obtain⟨_,h2,_,_⟩:=key b y hy i x hx;unfold Zcz;rw[h2];rfl
 ·show V7 f (X6 f)=none;refine Ja fun b _ y hy=>K9 fun i _ x hx=>?_
  obtain⟨rfl,h2,_,h4⟩:=key b y hy i x hx;unfold X6;rw[if_neg (by simpa using h2),List.any_eq_false];intro s hs;rw[atS_at (h4 s hs)];simp
end
section
theorem Zkk {p:GProg} (h0:(Yc p).1=0) (h1:p.all Zde=true) (hv:Kc p<=65536) (hf:Jj p<=65536):Y5 p=(0,(0,0,0)):=by
 rw[Zeh h0 (fun r hr=>Zja fun j hj f hf=>?_),if_neg (by omega)];exact Zhz (List.all_eq_true.1 h1 f (Ll hf)) r hr
end

/- A machine in memory. Conditions in it. -/
import Derived.Test.YtphnnmecmiodhaaGreatESs
import Derived.Test.YtphnnmecmiodhaaGreatESk
set_option maxHeartbeats 8000000
set_option maxRecDepth 100000
set_option linter.all false
namespace Go.Proofs.YtphnnmecmiodhaaGreat
open Lib(hid)
section
open Go.RowKit Go.Shelf
variable {wB:Bs} {lo ms:Nat} {vp:Value} {p:GProg} {W W':World} {g:SAd} {s:GM} {l:List GAct} {a:GAct}
theorem MaAt.pushA (h:Ma wB ms vp W g s) {v':Value} {ad:Nat×Nat} {x:GAct} {s':GM} (e1:s'.heap=s.heap) (e2:s'.acts=s.acts++[x]) (hc:Chg (fun n=>n=g.m\/g.v.ownBlock=some n) W W')
  (hb:W'.heap[g.m]?=some (.cells (Vx ms vp { g with v:=v' } s') 145 (0,0))) (hr:W'.ownsRow wB.heap.size 146 1 v' (g.av.length+1) ((g.av.map fun a=>Zgq a.1)++[Zgq ad.1]))
  (hv:∀ n,v'.ownBlock=some n->g.v.ownBlock=some n\/W.heap.size<=n) (h1:W'.heap[ad.1]?=some (.cells (Zaq x ad.2) 149 (0,0))) (h2:W'.heap[ad.2]?=some (Z7 encZ Yf x.vars)) (b1:W.heap.size<=ad.1) (b2:W.heap.size<=ad.2):
  Ma wB ms vp W' { g with v:=v',av:=g.av++[ad] } s'/\Stp W g W' { g with v:=v',av:=g.av++[ad] }:=by
 have hw:=h.chg.size;have hq:∀ {n:Nat} {cs:Array Value} {t:TypeId},W.heap[n]?=some (.cells cs t (0,0))->t≠145->t≠146->¬ (n=g.m\/g.v.ownBlock=some n):=fun hn t1 t2 q=>by
  rcases q with q|q
  ·exact X4 hn h.blk t1 q
  ·obtain⟨cs,hh⟩:=Vh h.row q;exact X4 hn hh t2 rfl
 have hqm:∀ {n:Nat} {o:Obj},W.heap[n]?=some o->(∀ cs t z,o≠.cells cs t z)->¬ (n=g.m\/g.v.ownBlock=some n):=fun hn ho q=>by
  rcases q with q|q
  ·rw[q,h.blk] at hn
   cases hn
   exact ho _ _ _ rfl
  ·obtain⟨cs,hh⟩:=Vh h.row q;rw[hh] at hn
   cases hn
   exact ho _ _ _ rfl
 refine⟨⟨h.chg.trans hc (fun n _ q=>.inl (by
  rcases q with q|q
  ·have:=h.mb;omega
  ·exact (h.row.lt n q).1)),hb,h.mb,?_,?_,?_,fun i y z g1 g2=>?_,?_,?_,hc.at_ h.doing (hqm h.doing (fun cs t z e=>by cases e)),h.db,h.hh⟩,⟨hc.mono fun n _ q=>?_,fun n hn=>?_,rfl,rfl⟩⟩
 ·rw[e1];refine h.heap.chg hc fun n hn=>?_
  obtain⟨_,cs,t,hh,ht⟩:=h.heap.ty hn;exact hq hh (by rcases ht with e|e|e|e<;>rw[e]<;>decide) (by rcases ht with e|e|e|e<;>rw[e]<;>decide)
 ·simp[e2,h.len]
 ·simpa using hr
 ·rw[e2] at g2;simp only at g1
  by_cases hi:i<g.av.length
  ·rw[List.getElem?_append_left hi] at g1;rw[List.getElem?_append_left (by have:=h.len;omega)] at g2;obtain⟨d1,d2,c1,c2⟩:=h.act i y z g1 g2;exact⟨d1,d2,hc.at_ c1 (hq c1 (by decide) (by decide)),hc.at_ c2 (hqm c2 (fun cs t z e=>by cases e))⟩
  ·have hi2:=(Le g1).1;simp only[List.length_append,List.length_singleton] at hi2;obtain rfl:i=g.av.length:=by omega
   rw[List.getElem?_append_right (Nat.le_refl _),Nat.sub_self] at g1;rw[List.getElem?_append_right (by rw[h.len];exact Nat.le_refl _),h.len,Nat.sub_self] at g2
   cases g1
   cases g2
   exact⟨by omega,by omega,h1,h2⟩
 ·simp only[List.map_append,List.map_singleton,List.nodup_append];refine⟨h.nd1,by simp,fun y hy z hz e=>?_⟩;rw[List.mem_singleton.1 hz] at e;obtain⟨o',ho',e'⟩:=List.mem_map.1 hy;have:=h.lt (n:=y) (.inr (.inr (.inr ⟨o',ho',.inl e'.symm⟩)));omega
 ·simp only[List.map_append,List.map_singleton,List.nodup_append];refine⟨h.nd2,by simp,fun y hy z hz e=>?_⟩;rw[List.mem_singleton.1 hz] at e;obtain⟨o',ho',e'⟩:=List.mem_map.1 hy;have:=h.lt (n:=y) (.inr (.inr (.inr ⟨o',ho',.inr e'.symm⟩)));omega
 ·exact q.elim .inl (fun q=>.inr (.inr (.inl q)))
 ·rcases hn with hn|hn|hn|⟨y,hy,hn⟩
  ·exact .inl (.inl hn)
  ·exact .inl (.inr (.inl hn))
  ·exact (hv n hn).imp (fun q=>.inr (.inr (.inl q))) id
  ·simp only at hy
   rcases List.mem_append.1 hy with hy|hy
   ·exact .inl (.inr (.inr (.inr ⟨y,hy,hn⟩)))
   ·rw[List.mem_singleton.1 hy] at hn;right
    rcases hn with hn|hn<;>omega
theorem Zqo {base:Nat} {e:TypeId} {A:Option Addr} {n c:Nat} {xs:List Value} {x:Value} (h:W.ownsRow base e 1 (.slice A (n+1) c) (n+1) (xs++[x])):W.ownsRow base e 1 (.slice A n c) n xs:=by
 obtain⟨h1,h2⟩:=h;have hx:xs.length=n:=by simp at h1;omega
 refine⟨by omega,?_⟩
 rcases h2 with ⟨_,h0⟩|⟨g,cap,cur,e1,hb,hh,hnc,hm,hs,ht⟩
 ·omega
 ·injection e1 with e1 e2 e3
  subst e1;subst e3;refine .inr ⟨g,c,cur,rfl,hb,hh,by omega,hm,hs,?_⟩;have:=congrArg (List.take n) ht;rw[List.take_take] at this;rw[Nat.mul_one] at*
  rw[show min n (n+1)=n by omega] at this;rw[this,<-hx,List.take_left]
theorem MaAt.popA (h:Ma wB ms vp W g s) (ha:s.acts=l++[a]) {A:Option Addr} {c:Nat} (hv:g.v=.slice A (l.length+1) c) (hc:Chg (fun n=>n=g.m) W W')
  (hb:W'.heap[g.m]?=some (.cells (Vx ms vp { g with v:=.slice A l.length c } s.pop) 145 (0,0))):
  Ma wB ms vp W' { g with v:=.slice A l.length c,av:=g.av.dropLast } s.pop/\Stp W g W' { g with v:=.slice A l.length c,av:=g.av.dropLast }:=by
 have hlen:=h.len;have hal:s.acts.length=l.length+1:=by rw[ha];simp
 have hpa:s.pop.acts=l:=by simp[GM.pop,ha]
 have hne:g.av≠[]:=fun e=>by rw[e] at hlen;simp at hlen;omega
 have hsp:g.av=g.av.dropLast++[g.av.getLast hne]:=(List.dropLast_concat_getLast hne).symm;have hdl:g.av.dropLast.length=l.length:=by rw[List.length_dropLast];omega
 have hsub:∀ y∈g.av.dropLast,y∈g.av:=fun y hy=>by rw[hsp];simp[hy]
 refine⟨⟨h.chg.trans hc (fun n _ q=>.inl (by have:=h.mb;omega)),hb,h.mb,?_,by rw[hpa];exact hdl,?_,fun i y z g1 g2=>?_,?_,?_,hc.at_ h.doing fun e=>?_,h.db,h.hh⟩,⟨hc.mono fun n _ q=>.inl q,fun n hn=>?_,rfl,rfl⟩⟩
 ·refine h.heap.chg hc fun n hn=>?_
  obtain⟨_,cs,t,hh,ht⟩:=h.heap.ty hn;exact X4 hh h.blk (by rcases ht with e|e|e|e<;>rw[e]<;>decide)
 ·have hr:=h.row;rw[hv,show g.av.length=l.length+1 by omega] at hr;rw[hsp,List.map_append,List.map_singleton] at hr;simp only[hdl];refine hc.owns (Zqo hr) fun k e=>?_
  obtain⟨cs,hh⟩:=Vh hr (show (Value.slice A (l.length+1) c).ownBlock=some k by cases A<;>exact e);exact X4 hh h.blk (by decide)
 ·rw[hpa] at g2;have hil:=(Le g2).1;have k1:g.av[i]?=some y:=by rw[hsp,List.getElem?_append_left (by omega)];exact g1
  have k2:s.acts[i]?=some z:=by rw[ha,List.getElem?_append_left hil];exact g2
  obtain⟨d1,d2,c1,c2⟩:=h.act i y z k1 k2;exact⟨d1,d2,hc.at_ c1 (X4 c1 h.blk (by decide)),hc.at_ c2 (fun e=>Ko h.blk c2 e.symm)⟩
 ·have:=h.nd1;rw[hsp,List.map_append,List.nodup_append] at this;exact this.1
 ·have:=h.nd2;rw[hsp,List.map_append,List.nodup_append] at this;exact this.1
 ·obtain⟨es,cl,hd⟩:=doObj_ok.1;have h1:=h.doing;rw[hd,e,h.blk] at h1
  cases h1
 ·left
  rcases hn with hn|hn|hn|⟨y,hy,hn⟩
  ·exact .inl hn
  ·exact .inr (.inl hn)
  ·exact .inr (.inr (.inl (by rw[hv];cases A<;>exact hn)))
  ·exact .inr (.inr (.inr ⟨y,hsub y hy,hn⟩))
end
section
open Go.RowKit Go.Shelf
variable {wB:Bs} {lo ms:Nat} {vp:Value} {p:GProg} {W W':World} {g:SAd} {s:GM} {l:List GAct} {a:GAct} {z:GIns} {A7 A8:Option Addr} {d7 d8:Nat}
def MOut (wB:Bs) (ms:Nat) (vp:Value) (W:World) (g:SAd) (s':GM) (e:Ending) (w':World):Prop:=e=.returned (.tuple #[])/\∃ g',Ma wB ms vp w' g' s'/\Stp W g w' g'
def Ui (z:GIns) (A7:Option Addr) (d7:Nat) (A8:Option Addr) (d8:Nat):Value:=.agg #[.int .u8 z.op,.string ⟨z.dst.toArray⟩,.string ⟨z.a.toArray⟩,.string ⟨z.b.toArray⟩,.int .i64 z.n,.string ⟨z.fn.toArray⟩,.slice A7 z.args.length d7,.slice A8 z.lb9.length d8]
def insQ (z:GIns) (A7:Option Addr) (d7:Nat) (A8:Option Addr) (d8:Nat):Array Value:= #[.int .u8 z.op,.string ⟨z.dst.toArray⟩,.string ⟨z.a.toArray⟩,.string ⟨z.b.toArray⟩,.int .i64 z.n,.string ⟨z.fn.toArray⟩,.slice A7 z.args.length d7,.slice A8 z.lb9.length d8]
theorem Vu (W:World) (z:GIns) (A7:Option Addr) (d7:Nat) (A8:Option Addr) (d8:Nat):∃ W1:World,W1=W.alloc (.cells #[.int .u8 z.op,.string ⟨z.dst.toArray⟩,.string ⟨z.a.toArray⟩,.string ⟨z.b.toArray⟩,.int .i64 z.n,.string ⟨z.fn.toArray⟩,.slice A7 z.args.length d7,.slice A8 z.lb9.length d8] 25)/\W.grownBy W1 none/\
  ∀ W',W1.grownBy W' none->∀ j,W'.cell? ⟨W.heap.size,j,none⟩=(insQ z A7 d7 A8 d8)[j]?:=by
 refine⟨_,rfl,Lc _ _ _,fun W' hg j=>?_⟩;have hb:=La W (.cells #[.int .u8 z.op,.string ⟨z.dst.toArray⟩,.string ⟨z.a.toArray⟩,.string ⟨z.b.toArray⟩,.int .i64 z.n,.string ⟨z.fn.toArray⟩,.slice A7 z.args.length d7,.slice A8 z.lb9.length d8] 25);exact (Za ((hg.block _ (Ze hb) (by simp)).trans hb)).1 j
theorem Zsp (E:StE wB lo ms vp p) (h:Ma wB ms vp W g s) (ha:s.acts=l++[a]) (hat:a.pt.2.2<=1000000):Calls Tryz.prog 111 #[.pointer (some ⟨g.m,0,none⟩),Ui z A7 d7 A8 d8] W (MOut wB ms vp W g (s.next p z.dst nilV 0)):=by
 obtain⟨W1,hW1,hg1,hI⟩:=Vu W z A7 d7 A8 d8;have k1:W1.cell? ⟨W.heap.size,1,none⟩=some (.string ⟨z.dst.toArray⟩):=hI _ (Lb _ _) 1;have hn:=Vk E (h.grow hg1) ha hat z.dst nilV 0;have Hs:=hid ((Stp.refl W g).grow hg1);simp only[Yf,nilV,Int.natCast_zero,Int.cast_ofNat_Int] at hn;clear h E ha hat hg1 hI;unfold Ui;go_enter Tryz.func111,Tryz.ntmps111;go_upto_region 1 with (fail)
 rw[<-hW1];clear hW1;go_wp2_with (go_at_call 175;refine hn.mono ?_;rintro e w1 ⟨rfl,hm,hs⟩);go_end0;exact⟨rfl,_,hm,Hs.out.trans hs⟩
theorem Zse (E:StE wB lo ms vp p) (h:Ma wB ms vp W g s) (ha:s.acts=l++[a]) (hat:a.pt.2.2<=1000000):Calls Tryz.prog 112 #[.pointer (some ⟨g.m,0,none⟩),Ui z A7 d7 A8 d8] W (MOut wB ms vp W g (s.next p z.dst ⟨2,0,ixK (Zy p p.length) z.fn⟩ 0)):=by
 obtain⟨W1,hW1,hg1,hI⟩:=Vu W z A7 d7 A8 d8;have h1:=h.grow hg1;have HSc:=hid (show ∀ W',W1.grownBy W' none->W'.cell? ⟨g.m,0,none⟩=some (.pointer (some ⟨ms,0,none⟩))/\W'.cell? ⟨W.heap.size,5,none⟩=some (.string ⟨z.fn.toArray⟩)/\W'.cell? ⟨W.heap.size,1,none⟩=some (.string ⟨z.dst.toArray⟩) from fun W' hg=>⟨(h1.grow hg).cell 0,hI _ hg 5,hI _ hg 1⟩);have Hf:=hid (fun (W':World) (hg:W1.grownBy W' none)=>J8 (E.mapAt (h1.grow hg)) z.fn);have Hn:=hid (fun (W':World) (hg:W1.grownBy W' none)=>show Calls Tryz.prog 175 #[.pointer (some ⟨g.m,0,none⟩),.string ⟨z.dst.toArray⟩,.agg #[.int .u8 2,.int .i64 0,.int .i64 (ixK (Zy p p.length) z.fn:Nat)],.int .u8 0] W' _ from Vk E (h1.grow hg) ha hat z.dst ⟨2,0,ixK (Zy p p.length) z.fn⟩ 0);have Hs:=hid (fun (W':World) (hg:W1.grownBy W' none)=>(Stp.refl W g).grow (Zb hg1 hg));have hg:=Lb W1 none;clear h h1 E ha hat hg1 hI;unfold Ui;go_enter Tryz.func112,Tryz.ntmps112;go_upto_region 1 with (fail)
 rw[<-hW1];clear hW1;go_region_held3 (fun W'=>W'.cell? ⟨g.m,0,none⟩=some (.pointer (some ⟨ms,0,none⟩))/\W'.cell? ⟨W.heap.size,5,none⟩=some (.string ⟨z.fn.toArray⟩)/\W'.cell? ⟨W.heap.size,1,none⟩=some (.string ⟨z.dst.toArray⟩)) (first|exact HSc.out _ hg|exact HSc.out _ (Zf hg)) ((go_simp;go_at_call 37;first|(refine (Hf.out _ (Zf hg)).mono ?_;rintro e w1 ⟨rfl,hg1⟩;have hg:=Zb (Zf hg) hg1;clear hg1)|(refine (Hf.out _ hg).mono ?_;rintro e w1 ⟨rfl,hg1⟩;have hg:=Zb hg hg1;clear hg1)))
 all_goals
  obtain⟨-,-,k1⟩:=HSc.out _ hg;have hn:=Hn.out _ hg;have Hs1:=hid (Hs.out _ hg);clear hg;go_wp2_with (go_at_call 175;refine hn.mono ?_;rintro e w2 ⟨rfl,hm,hs⟩);go_end0;exact⟨rfl,_,hm,Hs1.out.trans hs⟩
theorem Zsh (E:StE wB lo ms vp p) (h:Ma wB ms vp W g s) (ha:s.acts=l++[a]) (hat:a.pt.2.2<=1000000):Calls Tryz.prog 113 #[.pointer (some ⟨g.m,0,none⟩),Ui z A7 d7 A8 d8] W (MOut wB ms vp W g (s.next p z.dst (a.has p z.a) 0)):=by
 obtain⟨W1,hW1,hg1,hI⟩:=Vu W z A7 d7 A8 d8;have h1:=h.grow hg1;have HSc:=hid (show ∀ W',W1.grownBy W' none->W'.cell? ⟨W.heap.size,2,none⟩=some (.string ⟨z.a.toArray⟩)/\W'.cell? ⟨W.heap.size,1,none⟩=some (.string ⟨z.dst.toArray⟩) from fun W' hg=>⟨hI _ hg 2,hI _ hg 1⟩);obtain⟨x,hx⟩:∃ x,x=a.has p z.a:=⟨_,rfl⟩
 have Hh:=hid (fun (W':World) (hg:W1.grownBy W' none)=>Uj E (h1.grow hg) ha z.a);have Hn:=hid (fun (W':World) (hg:W1.grownBy W' none)=>Vk E (h1.grow hg) ha hat z.dst x 0);have Hs:=hid (fun (W':World) (hg:W1.grownBy W' none)=>(Stp.refl W g).grow (Zb hg1 hg));rw[<-hx] at Hh ⊢;unfold Yf at Hh Hn;obtain⟨k2,k1⟩:=HSc.out _ (Lb W1 none);clear h h1 E ha hat hg1 hI hx;unfold Ui;go_enter Tryz.func113,Tryz.ntmps113;go_upto_region 1 with (fail)
 rw[<-hW1];clear hW1;go_region_law ((first|(go_simp;go_at_call 176;first|(refine (Hh.out _ (Zf (Lb W1 none))).mono ?_;rintro e w1 ⟨rfl,hg1⟩;have hgA:=Zb (Zf (Lb W1 none)) hg1;obtain⟨y2,y1⟩:=HSc.out _ hgA;have HgA:=hid hgA;clear hg1 hgA)|(refine (Hh.out _ (Lb W1 none)).mono ?_;rintro e w1 ⟨rfl,hg1⟩;obtain⟨y2,y1⟩:=HSc.out _ hg1;have HgA:=hid hg1;clear hg1))|(go_simp;go_at_call 175;first|(refine (Hn.out _ HgA.out).mono ?_;rintro e w2 ⟨rfl,hm,hs⟩;have Hm:=hid hm;have Hs2:=hid ((Hs.out _ HgA.out).trans hs);clear hm hs)|(refine (Hn.out _ (Zf HgA.out)).mono ?_;rintro e w2 ⟨rfl,hm,hs⟩;have Hm:=hid hm;have Hs2:=hid ((Hs.out _ (Zf HgA.out)).trans hs);clear hm hs))))
 all_goals (go_wp2_with fail;go_end0)
 all_goals exact⟨rfl,_,Hm.out,Hs2.out⟩
end
section
open Go.RowKit Go.Shelf
variable {wB:Bs} {lo ms:Nat} {vp:Value} {p:GProg} {W W':World} {g:SAd} {s:GM} {l:List GAct} {a:GAct} {z:GIns} {A7 A8:Option Addr} {d7 d8:Nat}
theorem Zow (E:StE wB lo ms vp p) (h:Ma wB ms vp W g s) (ha:s.acts=l++[a]) (hat:a.pt.2.2<=1000000) (hs:Ya s.heap<=16384):Calls Tryz.prog 116 #[.pointer (some ⟨g.m,0,none⟩),Ui z A7 d7 A8 d8] W (MOut wB ms vp W g (s.store p (a.has p z.b) (a.has p z.a))):=by
 obtain⟨W1,hW1,hg1,hI⟩:=Vu W z A7 d7 A8 d8;have h1:=h.grow hg1;have HSc:=hid (show ∀ W',W1.grownBy W' none->W'.cell? ⟨g.m,1,none⟩=some (.pointer (some ⟨g.h.h,0,none⟩))/\W'.cell? ⟨W.heap.size,2,none⟩=some (.string ⟨z.a.toArray⟩)/\W'.cell? ⟨W.heap.size,3,none⟩=some (.string ⟨z.b.toArray⟩) from fun W' hg=>⟨(h1.grow hg).cell 1,hI _ hg 2,hI _ hg 3⟩);obtain⟨x,hx⟩:∃ x,x=a.has p z.b:=⟨_,rfl⟩
 obtain⟨v,hv⟩:∃ v,v=a.has p z.a:=⟨_,rfl⟩
 have Ha:=hid (fun (W':World) (hg:W1.grownBy W' none)=>Uj E (h1.grow hg) ha z.a);have Hb:=hid (fun (W':World) (hg:W1.grownBy W' none)=>Uj E (h1.grow hg) ha z.b);have Hp:=hid (fun (W':World) (hg:W1.grownBy W' none)=>Zol (h1.grow hg).heap hs x v);obtain⟨hp',hhp⟩:∃ hp',hp'=if Yi s.heap x=0 then Uf s.heap x v else s.heap:=⟨_,rfl⟩
 have Hn:=hid (show ∀ wA,W1.grownBy wA none->∀ wX,HpAt wX wB.heap.size g.h hp'->Chg (HQ g.h) wA wX->Stp W g wX g/\Calls Tryz.prog 175 #[.pointer (some ⟨g.m,0,none⟩),.string ⟨#[]⟩,.agg #[.int .u8 0,.int .i64 0,.int .i64 0],.int .u8 (Yi s.heap x:Nat)] wX (fun e w'=>e=.returned (.tuple #[])/\Ma wB ms vp w' g (s.store p x v)/\Stp wX g w' g) from fun wA hg wX hh hc=>by
  obtain⟨q1,q2⟩:=(h1.grow hg).mem doObj_ok.1 (h':=g.h) hc hh rfl (fun n hn=>.inl hn)
  refine⟨((Stp.refl W g).grow (Zb hg1 hg)).trans q2,?_⟩
  have:=Vk E q1 (l:=l) (a:=a) ha hat [] nilV (Yi s.heap x)
  rw[hhp] at this
  exact this)
 rw[<-hx] at Hb ⊢;rw[<-hv] at Ha ⊢;rw[<-hhp] at Hp;unfold Yf at Ha Hb Hp;have hg:=Lb W1 none;obtain⟨k1,k2,k3⟩:=HSc.out _ hg;obtain⟨st,hst⟩:∃ st,st=Yi s.heap x:=⟨_,rfl⟩
 rw[<-hst] at Hp Hn;clear h h1 E ha hat hg1 hI hx hv hs hhp hst;unfold Ui;go_enter Tryz.func116,Tryz.ntmps116;go_upto_region 1 with (fail)
 rw[<-hW1];clear hW1;go_region_law ((first|(go_simp;go_at_call 176;with_reducible (change Calls Tryz.prog _ #[.pointer (some ⟨g.m,0,none⟩),.string ⟨z.b.toArray⟩] _ _);first|(refine (Hb.out _ (Zf hg)).mono ?_;rintro e w1 ⟨rfl,hg1⟩;have hg:=Zb (Zf hg) hg1;obtain⟨y1,y2,y3⟩:=HSc.out _ hg;clear hg1)|(refine (Hb.out _ hg).mono ?_;rintro e w1 ⟨rfl,hg1⟩;have hg:=Zb hg hg1;obtain⟨y1,y2,y3⟩:=HSc.out _ hg;clear hg1))|(go_simp;go_at_call 176;with_reducible (change Calls Tryz.prog _ #[.pointer (some ⟨g.m,0,none⟩),.string ⟨z.a.toArray⟩] _ _);first|(refine (Ha.out _ (Zf hg)).mono ?_;rintro e w1 ⟨rfl,hg1⟩;have hg:=Zb (Zf hg) hg1;obtain⟨y1,y2,y3⟩:=HSc.out _ hg;clear hg1)|(refine (Ha.out _ hg).mono ?_;rintro e w1 ⟨rfl,hg1⟩;have hg:=Zb hg hg1;obtain⟨y1,y2,y3⟩:=HSc.out _ hg;clear hg1))|(go_simp;go_at_call 179;first|(refine (Hp.out _ hg).mono ?_;rintro e w2 ⟨rfl,hh,hc⟩;have hn:=Hn.out _ hg w2 hh hc;clear hh hc)|(refine (Hp.out _ (Zf hg)).mono ?_;rintro e w2 ⟨rfl,hh,hc⟩;have hn:=Hn.out _ (Zf hg) w2 hh hc;clear hh hc))|(go_simp;go_at_call 175;refine hn.2.mono ?_;rintro e w3 ⟨rfl,hm,hs⟩;have Hm:=hid hm;have Hs2:=hid (hn.1.trans hs);clear hm hs)))
 all_goals (go_wp2_with fail;go_end0)
 all_goals exact⟨rfl,_,Hm.out,Hs2.out⟩
theorem Zsn (E:StE wB lo ms vp p) (h:Ma wB ms vp W g s) (ha:s.acts=l++[a]) (hat:a.pt.2.2<=1000000) (hs:Ya s.heap<=16384) (hl:s.heap.length<=16384) (hn:1<=(Ua p a.pt).2.1/\(Ua p a.pt).2.1<=64):Calls Tryz.prog 110 #[.pointer (some ⟨g.m,0,none⟩),Ui z A7 d7 A8 d8] W (MOut wB ms vp W g (s.make p z.dst)):=by
 obtain⟨W1,hW1,hg1,hI⟩:=Vu W z A7 d7 A8 d8;have h1:=h.grow hg1;obtain⟨gb,c,ad,e1,e2,e3,e4,e5,c1,c2,c3⟩:=h1.top ha
 have HSc:=hid (show ∀ W',W1.grownBy W' none->W'.cell? ⟨g.m,0,none⟩=some (.pointer (some ⟨ms,0,none⟩))/\W'.cell? ⟨ad.1,0,none⟩=some (.int .i64 a.pt.1)/\W'.cell? ⟨ad.1,1,none⟩=some (.int .i64 a.pt.2.1)/\W'.cell? ⟨ad.1,2,none⟩=some (.int .i64 a.pt.2.2) from fun W' hg=>by
  obtain⟨gb',c',ad',f1,f2,f3,f4,f5,d1,d2,d3⟩:=(h1.grow hg).top ha
  rw[e4] at f4
  cases f4
  exact⟨(h1.grow hg).cell 0,(Za d2).1 0,(Za d2).1 1,(Za d2).1 2⟩)
 have HSd:=hid (show ∀ W',W1.grownBy W' none->W'.cell? ⟨g.m,1,none⟩=some (.pointer (some ⟨g.h.h,0,none⟩))/\W'.cell? ⟨W.heap.size,1,none⟩=some (.string ⟨z.dst.toArray⟩) from fun W' hg=>⟨(h1.grow hg).cell 1,hI _ hg 1⟩);have Ht:=hid (fun (W':World) (hg:W1.grownBy W' none)=>Vo (h1.grow hg) ha e4);have Hv:=hid (fun (W':World) (hg:W1.grownBy W' none)=>Zsr (E.mapAt (h1.grow hg)) a.pt);have hbW:wB.heap.size<=W1.heap.size:=h1.chg.size;have HI:=hid hI;unfold GM.make;rw[X1 ha];obtain⟨⟨b,n,bb⟩,hq⟩:∃ q,q=Ua p a.pt:=⟨_,rfl⟩
 rw[<-hq] at Hv hn ⊢;simp only at hn Hv ⊢
 by_cases hsz:Ya s.heap+n<=16384
 ·rw[if_pos hsz];have Hmk:=hid (fun (W':World) (hg:W1.grownBy W' none)=>show Calls Tryz.prog 174 #[.pointer (some ⟨g.h.h,0,none⟩),.int .i64 b,.int .i64 n] W' (fun e w'=>e=.returned (.tuple #[.agg #[.int .u8 1,.int .i64 (s.heap.length:Nat),.int .i64 0],.int .u8 0])/\∃ a',HpAt w' wB.heap.size a' (s.heap++[(b,List.replicate n nilV)])/\a'.h=g.h.h/\Chg (HQ g.h) W' w'/\∀ m,HQ a' m->HQ g.h m\/W'.heap.size<=m) from Zrx (h1.grow hg).heap (by have:=hg.size;omega) hs hl (b:=b) hn hsz)
  have Hn:=hid (show ∀ wA,W1.grownBy wA none->∀ wX a',HpAt wX wB.heap.size a' (s.heap++[(b,List.replicate n nilV)])->a'.h=g.h.h->Chg (HQ g.h) wA wX->(∀ m,HQ a' m->HQ g.h m\/wA.heap.size<=m)->∀ wY,wX.grownBy wY none->wY.cell? ⟨W.heap.size,1,none⟩=some (.string ⟨z.dst.toArray⟩)/\Stp W g wY { g with h:=a' }/\
                    Calls Tryz.prog 175 #[.pointer (some ⟨g.m,0,none⟩),.string ⟨z.dst.toArray⟩,.agg #[.int .u8 1,.int .i64 (s.heap.length:Nat),.int .i64 0],.int .u8 0] wY (fun e w'=>e=.returned (.tuple #[])/\Ma wB ms vp w' { g with h:=a' } (({ s with heap:=s.heap++[(b,List.replicate n nilV)] }:GM).next p z.dst ⟨1,s.heap.length,0⟩ 0)/\Stp wY { g with h:=a' } w' { g with h:=a' }) from fun wA hg wX a' hh e hc hq' wY hy=>by
                     obtain⟨q1,q2⟩:=(h1.grow hg).mem doObj_ok.1 hc hh e hq'
                     refine⟨?_,(((Stp.refl W g).grow (Zb hg1 hg)).trans q2).grow hy,Vk E (q1.grow hy) (l:=l) (a:=a) ha hat z.dst ⟨1,s.heap.length,0⟩ 0⟩
                     have k:=HI.out _ hg 1
                     have hl0:W.heap.size<W1.heap.size:=by rw[hW1];simp
                     have hlt:W.heap.size<wA.heap.size:=by have:=hg.size;omega
                     have hnq:¬ HQ g.h W.heap.size:=fun q=>by have:=h.lt (.inr (.inl q));omega
                     exact (Lj (hy.block _ (Lm hlt hc.size) (by simp))).trans ((Lj (hc.block _ hlt hnq)).trans k))
  have hg:=Lb W1 none;clear h h1 E ha hat hg1 hI HI hs hl hn hsz e1 e2 e3 e4 e5 c1 c2 c3 hq hbW;unfold Ui;go_enter Tryz.func110,Tryz.ntmps110;go_upto_region 1 with (fail)
  rw[<-hW1];clear hW1;go_region_held3 (fun W'=>W'.cell? ⟨g.m,0,none⟩=some (.pointer (some ⟨ms,0,none⟩))/\W'.cell? ⟨ad.1,0,none⟩=some (.int .i64 a.pt.1)/\W'.cell? ⟨ad.1,1,none⟩=some (.int .i64 a.pt.2.1)/\W'.cell? ⟨ad.1,2,none⟩=some (.int .i64 a.pt.2.2)) (first|exact HSc.out _ hg|exact HSc.out _ (Zf hg)) ((first|(go_simp;go_at_call 78;first|(refine (Ht.out _ (Zf hg)).mono ?_;rintro e w1 ⟨rfl,n1,hn1⟩;have hg:=hn1▸Zg (Zf hg) n1;clear hn1)|(refine (Ht.out _ hg).mono ?_;rintro e w1 ⟨rfl,n1,hn1⟩;have hg:=hn1▸Zg hg n1;clear hn1))|(go_simp;go_at_call 173;first|(refine (Hv.out _ (Zf hg)).mono ?_;rintro e w1 ⟨rfl,hg1⟩;have hg:=Zb (Zf hg) hg1;clear hg1)|(refine (Hv.out _ hg).mono ?_;rintro e w1 ⟨rfl,hg1⟩;have hg:=Zb hg hg1;clear hg1))))
  all_goals
   obtain⟨k1,-⟩:=HSd.out _ hg;have hmk:=Hmk.out _ hg;have Hg:=hid hg;clear hg;go_upto_region 3 with (go_at_call 174;refine hmk.mono ?_;rintro e w2 ⟨rfl,a',hp',ha',hc',hq'⟩)
   obtain⟨w3,hw3⟩:∃ w3:World,w3=w2.alloc (.cells #[.int .u8 1,.int .i64 (s.heap.length:Nat),.int .i64 0] 72):=⟨_,rfl⟩
   rw[<-hw3];have hbv:w3.heap[w2.heap.size]?=some (.cells #[.int .u8 1,.int .i64 (s.heap.length:Nat),.int .i64 0] 72 (0,0)):=by rw[hw3];exact La _ _
   obtain⟨y1,hs1,hn⟩:=Hn.out _ Hg.out w2 a' hp' ha' hc' hq' w3 (by rw[hw3];exact Lc _ _ _);have v0:=(Za hbv).1 0;have v1:=(Za hbv).1 1;have v2:=(Za hbv).1 2;have Hs1:=hid hs1;clear hp' ha' hc' hq' hw3 hbv hs1 hmk k1;go_wp2_with (go_at_call 175;refine hn.mono ?_;rintro e w4 ⟨rfl,hm,hs⟩);go_end0;exact⟨rfl,_,hm,Hs1.out.trans hs⟩
 ·rw[if_neg hsz];have Hmk:=hid (fun (W':World) (hg:W1.grownBy W' none)=>show Calls Tryz.prog 174 #[.pointer (some ⟨g.h.h,0,none⟩),.int .i64 b,.int .i64 n] W' (fun e w'=>e=.returned (.tuple #[.agg #[.int .u8 0,.int .i64 0,.int .i64 0],.int .u8 6])/\W'.grownBy w' none) from Zoj (h1.grow hg).heap hs (b:=b) hn hsz)
  have Hn:=hid (fun (W':World) (hg:W1.grownBy W' none)=>show Calls Tryz.prog 175 #[.pointer (some ⟨g.m,0,none⟩),.string ⟨z.dst.toArray⟩,.agg #[.int .u8 0,.int .i64 0,.int .i64 0],.int .u8 6] W' (fun e w'=>e=.returned (.tuple #[])/\Ma wB ms vp w' g { s with stop:=6 }/\Stp W' g w' g) from by
   have:=Vk E (h1.grow hg) ha hat z.dst nilV 6
   unfold GM.next at this
   rw[if_neg (by decide)] at this
   exact this)
  have Hs:=hid (fun (W':World) (hg:W1.grownBy W' none)=>(Stp.refl W g).grow (Zb hg1 hg));have hg:=Lb W1 none;clear h h1 E ha hat hg1 hI HI hs hl hn hsz e1 e2 e3 e4 e5 c1 c2 c3 hq hbW;unfold Ui;go_enter Tryz.func110,Tryz.ntmps110;go_upto_region 1 with (fail)
  rw[<-hW1];clear hW1;go_region_held3 (fun W'=>W'.cell? ⟨g.m,0,none⟩=some (.pointer (some ⟨ms,0,none⟩))/\W'.cell? ⟨ad.1,0,none⟩=some (.int .i64 a.pt.1)/\W'.cell? ⟨ad.1,1,none⟩=some (.int .i64 a.pt.2.1)/\W'.cell? ⟨ad.1,2,none⟩=some (.int .i64 a.pt.2.2)) (first|exact HSc.out _ hg|exact HSc.out _ (Zf hg)) ((first|(go_simp;go_at_call 78;first|(refine (Ht.out _ (Zf hg)).mono ?_;rintro e w1 ⟨rfl,n1,hn1⟩;have hg:=hn1▸Zg (Zf hg) n1;clear hn1)|(refine (Ht.out _ hg).mono ?_;rintro e w1 ⟨rfl,n1,hn1⟩;have hg:=hn1▸Zg hg n1;clear hn1))|(go_simp;go_at_call 173;first|(refine (Hv.out _ (Zf hg)).mono ?_;rintro e w1 ⟨rfl,hg1⟩;have hg:=Zb (Zf hg) hg1;clear hg1)|(refine (Hv.out _ hg).mono ?_;rintro e w1 ⟨rfl,hg1⟩;have hg:=Zb hg hg1;clear hg1))))
  all_goals
   obtain⟨k1,-⟩:=HSd.out _ hg;have hmk:=Hmk.out _ hg;have Hg:=hid hg;clear hg;go_upto_region 3 with (go_at_call 174;refine hmk.mono ?_;rintro e w2 ⟨rfl,hg2⟩)
   obtain⟨w3,hw3⟩:∃ w3:World,w3=w2.alloc (.cells #[.int .u8 0,.int .i64 0,.int .i64 0] 72):=⟨_,rfl⟩
   rw[<-hw3];have hbv:w3.heap[w2.heap.size]?=some (.cells #[.int .u8 0,.int .i64 0,.int .i64 0] 72 (0,0)):=by rw[hw3];exact La _ _
   have hg3:W1.grownBy w3 none:=by rw[hw3];exact Zd (Zb Hg.out hg2) _
   have hn:=Hn.out _ hg3;obtain⟨-,y1⟩:=HSd.out _ hg3;have v0:=(Za hbv).1 0;have v1:=(Za hbv).1 1;have v2:=(Za hbv).1 2;have Hs1:=hid (Hs.out _ hg3);clear hw3 hbv hg3 hg2 hmk k1;go_wp2_with (go_at_call 175;refine hn.mono ?_;rintro e w4 ⟨rfl,hm,hs⟩);go_end0;exact⟨rfl,_,hm,Hs1.out.trans hs⟩
end
section
open Go.RowKit Go.Shelf
variable {wB:Bs} {lo ms:Nat} {vp:Value} {p:GProg} {W W':World} {g:SAd} {s:GM} {l:List GAct} {a:GAct} {z:GIns} {A7 A8:Option Addr} {d7 d8:Nat}
theorem J6 {w:World} {b:Nat} (h:w.heap[b]?=some (.cells #[.int .u8 0,.int .i64 0,.int .i64 0] 72 (0,0))):w.cell? ⟨b,0,none⟩=some (.int .u8 0)/\w.cell? ⟨b,1,none⟩=some (.int .i64 0)/\w.cell? ⟨b,2,none⟩=some (.int .i64 0)/\w.frozen? ⟨b,0,none⟩=false/\w.frozen? ⟨b,1,none⟩=false/\w.frozen? ⟨b,2,none⟩=false:=
 ⟨(Za h).1 0,(Za h).1 1,(Za h).1 2,(Za h).2 0,(Za h).2 1,(Za h).2 2⟩
theorem Zos (E:StE wB lo ms vp p) (h:Ma wB ms vp W g s) (ha:s.acts=l++[a]) (hat:a.pt.2.2<=1000000) (hs:Ya s.heap<=16384) (hk:0<=z.n/\z.n<=1000000):Calls Tryz.prog 114 #[.pointer (some ⟨g.m,0,none⟩),Ui z A7 d7 A8 d8] W (MOut wB ms vp W g (s.next p z.dst (V1 s.heap (a.has p z.a) z.n).1 (V1 s.heap (a.has p z.a) z.n).2)):=by
 obtain⟨W1,hW1,hg1,hI⟩:=Vu W z A7 d7 A8 d8;have h1:=h.grow hg1;have HSc:=hid (show ∀ W',W1.grownBy W' none->W'.cell? ⟨g.m,1,none⟩=some (.pointer (some ⟨g.h.h,0,none⟩))/\W'.cell? ⟨W.heap.size,2,none⟩=some (.string ⟨z.a.toArray⟩)/\W'.cell? ⟨W.heap.size,4,none⟩=some (.int .i64 z.n)/\W'.cell? ⟨W.heap.size,1,none⟩=some (.string ⟨z.dst.toArray⟩) from fun W' hg=>⟨(h1.grow hg).cell 1,hI _ hg 2,hI _ hg 4,hI _ hg 1⟩);obtain⟨x,hx⟩:∃ x,x=a.has p z.a:=⟨_,rfl⟩
 obtain⟨⟨v,st⟩,hy⟩:∃ y,y=V1 s.heap x z.n:=⟨_,rfl⟩
 have Hh:=hid (fun (W':World) (hg:W1.grownBy W' none)=>Uj E (h1.grow hg) ha z.a);have Hp:=hid (fun (W':World) (hg:W1.grownBy W' none)=>Zsa (h1.grow hg).heap hs x z.n hk);have Hn:=hid (fun (W':World) (hg:W1.grownBy W' none)=>Vk E (h1.grow hg) ha hat z.dst v st);have Hs:=hid (fun (W':World) (hg:W1.grownBy W' none)=>(Stp.refl W g).grow (Zb hg1 hg));rw[<-hx] at Hh ⊢;rw[<-hy] at Hp ⊢;unfold Yf at Hh Hn Hp;obtain⟨k3,k2,k4,k1⟩:=HSc.out _ (Lb W1 none);have hl2:g.m<W1.heap.size:=Ze h1.blk;have hl1:W.heap.size<W1.heap.size:=by rw[hW1];simp
 clear h h1 E ha hat hg1 hI hx hy hs hk;unfold Ui;go_enter Tryz.func114,Tryz.ntmps114;go_upto_region 1 with (fail)
 rw[<-hW1];clear hW1;go_cut [4,5] from 6 to 19 (fun s4 s5 wx=>s5=.int .u8 st/\∃ b4:Nat,s4=.pointer (some ⟨b4,0,none⟩)/\Hid (W1.grownBy wx none)/\Hid (wx.heap[b4]?=some (.cells #[.int .u8 v.kind,.int .i64 v.obj,.int .i64 v.n] 72 (0,0))))
 case first=>
  have hgR:=Lb W1 none;have hgZ:=Lc W1 (.cells #[.int .u8 0,.int .i64 0,.int .i64 0] 72) none;have hZ0:=La W1 (.cells #[.int .u8 0,.int .i64 0,.int .i64 0] 72);go_region_law ((first|(go_simp;go_at_call 176;first|(refine (Hh.out _ (Zf hgR)).mono ?_;rintro e w1 ⟨rfl,hg1⟩;have hgA:=Zb (Zf hgR) hg1;obtain⟨y3,y2,y4,y1⟩:=HSc.out _ hgA;have HgA:=hid hgA;have l1:=Lm hl1 hgA.size;have l2:=Lm hl2 hgA.size;clear hg1 hgA)|(refine (Hh.out _ hgR).mono ?_;rintro e w1 ⟨rfl,hg1⟩;obtain⟨y3,y2,y4,y1⟩:=HSc.out _ hg1;have HgA:=hid hg1;have l1:=Lm hl1 hg1.size;have l2:=Lm hl2 hg1.size;clear hg1)|(refine (Hh.out _ (Zf hgZ)).mono ?_;rintro e w1 ⟨rfl,hg1⟩;have hgA:=Zb (Zf hgZ) hg1;obtain⟨y3,y2,y4,y1⟩:=HSc.out _ hgA;have HgA:=hid hgA;have hz:=(hg1.block W1.heap.size (by simp[World.drew]) (by simp)).trans hZ0;obtain⟨z0,z1,z2,z3,z4,z5⟩:=J6 hz;have Hz:=hid hz;have l1:=Lm hl1 hgA.size;have l2:=Lm hl2 hgA.size;clear hg1 hgA hz)|(refine (Hh.out _ hgZ).mono ?_;rintro e w1 ⟨rfl,hg1⟩;have hgA:=Zb hgZ hg1;obtain⟨y3,y2,y4,y1⟩:=HSc.out _ hgA;have HgA:=hid hgA;have hz:=(hg1.block W1.heap.size (by simp) (by simp)).trans hZ0;obtain⟨z0,z1,z2,z3,z4,z5⟩:=J6 hz;have Hz:=hid hz;have l1:=Lm hl1 hgA.size;have l2:=Lm hl2 hgA.size;clear hg1 hgA hz))|(go_simp;go_at_call 177;first|(refine (Hp.out _ HgA.out).mono ?_;rintro e w2 ⟨rfl,hg2⟩;have HgB:=hid (Zb HgA.out hg2);(try (have hz2:=(hg2.block W1.heap.size (Ze Hz.out) (by simp)).trans Hz.out;obtain⟨r0,r1,r2,r3,r4,r5⟩:=J6 hz2;have Hz2:=hid hz2;clear hz2));clear hg2)|(refine (Hp.out _ (Zd HgA.out (.cells #[.int .u8 0,.int .i64 0,.int .i64 0] 72))).mono ?_;rintro e w2 ⟨rfl,hg2⟩;have HgB:=hid (Zb (Zd HgA.out _) hg2);have hz2:=(hg2.block w1.heap.size (by simp) (by simp)).trans (La w1 (.cells #[.int .u8 0,.int .i64 0,.int .i64 0] 72));obtain⟨r0,r1,r2,r3,r4,r5⟩:=J6 hz2;have Hz2:=hid hz2;clear hg2 hz2))))
  all_goals (go_wp2_with fail;go_meet)
  all_goals first
   |exact⟨rfl,_,rfl,hid (Zd HgB.out _),hid (La _ _)⟩
   |exact⟨rfl,_,rfl,hid (Chg.after HgB.out (Jm _ _ _ _ _ _ _ _) (fun n hn q=>by have:=HgA.out.size;omega)),hid (Y8 Hz2.out _ _ _)⟩
 case rest=>
  obtain⟨rfl,b4,rfl,hgx,hbx⟩:=hcut;obtain⟨-,-,-,y1⟩:=HSc.out _ hgx.out;have v0:=(Za hbx.out).1 0;have v1:=(Za hbx.out).1 1;have v2:=(Za hbx.out).1 2;have hn:=Hn.out _ hgx.out;have Hs1:=hid (Hs.out _ hgx.out);clear hgx hbx k1 k2 k3 k4;go_wp2_with (go_at_call 175;refine hn.mono ?_;rintro e w2 ⟨rfl,hm,hs⟩);go_end0;exact⟨rfl,_,hm,Hs1.out.trans hs⟩
end
section
open Go.RowKit Go.Shelf
variable {wB:Bs} {lo ms:Nat} {vp:Value} {p:GProg} {W W':World} {g:SAd} {s:GM} {l:List GAct} {a:GAct} {z:GIns} {A7 A8:Option Addr} {d7 d8:Nat}
theorem Zsm (E:StE wB lo ms vp p) (h:Ma wB ms vp W g s) (ha:s.acts=l++[a]) (hat:a.pt.2.2<=1000000) (hs:Ya s.heap<=16384):Calls Tryz.prog 115 #[.pointer (some ⟨g.m,0,none⟩),Ui z A7 d7 A8 d8] W (MOut wB ms vp W g (s.next p z.dst ((Kv s.heap (a.has p z.a)).getD nilV) (Yi s.heap (a.has p z.a)))):=by
 obtain⟨W1,hW1,hg1,hI⟩:=Vu W z A7 d7 A8 d8;have h1:=h.grow hg1;have HSc:=hid (show ∀ W',W1.grownBy W' none->W'.cell? ⟨g.m,1,none⟩=some (.pointer (some ⟨g.h.h,0,none⟩))/\W'.cell? ⟨W.heap.size,2,none⟩=some (.string ⟨z.a.toArray⟩)/\W'.cell? ⟨W.heap.size,1,none⟩=some (.string ⟨z.dst.toArray⟩) from fun W' hg=>⟨(h1.grow hg).cell 1,hI _ hg 2,hI _ hg 1⟩);obtain⟨x,hx⟩:∃ x,x=a.has p z.a:=⟨_,rfl⟩
 have Hh:=hid (fun (W':World) (hg:W1.grownBy W' none)=>Uj E (h1.grow hg) ha z.a);have Hp:=hid (fun (W':World) (hg:W1.grownBy W' none)=>Zrw (h1.grow hg).heap hs x);have Hn:=hid (fun (W':World) (hg:W1.grownBy W' none) (v:GVal)=>Vk E (h1.grow hg) ha hat z.dst v (Yi s.heap x));have Hs:=hid (fun (W':World) (hg:W1.grownBy W' none)=>(Stp.refl W g).grow (Zb hg1 hg));rw[<-hx] at Hh ⊢
 have Hv:=hid (show ∀ v,(Yi s.heap x=0->v=(Kv s.heap x).getD nilV)->s.next p z.dst v (Yi s.heap x)=s.next p z.dst ((Kv s.heap x).getD nilV) (Yi s.heap x) from fun v hv=>by
  by_cases h0:Yi s.heap x=0
  ·rw[hv h0]
  ·unfold GM.next;rw[if_neg h0,if_neg h0])
 obtain⟨st,hst⟩:∃ st,st=Yi s.heap x:=⟨_,rfl⟩
 obtain⟨r0,hr0⟩:∃ r0,r0=(Kv s.heap x).getD nilV:=⟨_,rfl⟩
 rw[<-hst] at Hp Hn Hv ⊢;rw[<-hr0] at Hp Hv ⊢;unfold Yf at Hh Hn Hp;obtain⟨k3,k2,k1⟩:=HSc.out _ (Lb W1 none);have hl2:g.m<W1.heap.size:=Ze h1.blk;have hl1:W.heap.size<W1.heap.size:=by rw[hW1];simp
 clear h h1 E ha hat hg1 hI hx hst hr0 hs;unfold Ui;go_enter Tryz.func115,Tryz.ntmps115;go_upto_region 1 with (fail)
 rw[<-hW1];clear hW1;go_cut [4,5] from 6 to 17 (fun s4 s5 wx=>s5=.int .u8 st/\∃ (b4:Nat) (v:GVal),Hid (st=0->v=r0)/\s4=.pointer (some ⟨b4,0,none⟩)/\Hid (W1.grownBy wx none)/\Hid (wx.heap[b4]?=some (.cells #[.int .u8 v.kind,.int .i64 v.obj,.int .i64 v.n] 72 (0,0))))
 case first=>
  have hgR:=Lb W1 none;have hgZ:=Lc W1 (.cells #[.int .u8 0,.int .i64 0,.int .i64 0] 72) none;have hZ0:=La W1 (.cells #[.int .u8 0,.int .i64 0,.int .i64 0] 72);go_region_law ((first|(go_simp;go_at_call 176;first|(refine (Hh.out _ (Zf hgR)).mono ?_;rintro e w1 ⟨rfl,hg1⟩;have hgA:=Zb (Zf hgR) hg1;obtain⟨y3,y2,y1⟩:=HSc.out _ hgA;have HgA:=hid hgA;have l1:=Lm hl1 hgA.size;have l2:=Lm hl2 hgA.size;clear hg1 hgA)|(refine (Hh.out _ hgR).mono ?_;rintro e w1 ⟨rfl,hg1⟩;obtain⟨y3,y2,y1⟩:=HSc.out _ hg1;have HgA:=hid hg1;have l1:=Lm hl1 hg1.size;have l2:=Lm hl2 hg1.size;clear hg1)|(refine (Hh.out _ (Zf hgZ)).mono ?_;rintro e w1 ⟨rfl,hg1⟩;have hgA:=Zb (Zf hgZ) hg1;obtain⟨y3,y2,y1⟩:=HSc.out _ hgA;have HgA:=hid hgA;have hz:=(hg1.block W1.heap.size (by simp[World.drew]) (by simp)).trans hZ0;obtain⟨z0,z1,z2,z3,z4,z5⟩:=J6 hz;have Hz:=hid hz;have l1:=Lm hl1 hgA.size;have l2:=Lm hl2 hgA.size;clear hg1 hgA hz)|(refine (Hh.out _ hgZ).mono ?_;rintro e w1 ⟨rfl,hg1⟩;have hgA:=Zb hgZ hg1;obtain⟨y3,y2,y1⟩:=HSc.out _ hgA;have HgA:=hid hgA;have hz:=(hg1.block W1.heap.size (by simp) (by simp)).trans hZ0;obtain⟨z0,z1,z2,z3,z4,z5⟩:=J6 hz;have Hz:=hid hz;have l1:=Lm hl1 hgA.size;have l2:=Lm hl2 hgA.size;clear hg1 hgA hz))|(go_simp;go_at_call 178;first|(refine (Hp.out _ HgA.out).mono ?_;rintro e w2 ⟨⟨v,rfl,hv⟩,hg2⟩;have HvB:=hid hv;clear hv;have HgB:=hid (Zb HgA.out hg2);(try (have hz2:=(hg2.block W1.heap.size (Ze Hz.out) (by simp)).trans Hz.out;obtain⟨r0,r1,r2,r3,r4,r5⟩:=J6 hz2;have Hz2:=hid hz2;clear hz2));clear hg2)|(refine (Hp.out _ (Zd HgA.out (.cells #[.int .u8 0,.int .i64 0,.int .i64 0] 72))).mono ?_;rintro e w2 ⟨⟨v,rfl,hv⟩,hg2⟩;have HvB:=hid hv;clear hv;have HgB:=hid (Zb (Zd HgA.out _) hg2);have hz2:=(hg2.block w1.heap.size (by simp) (by simp)).trans (La w1 (.cells #[.int .u8 0,.int .i64 0,.int .i64 0] 72));obtain⟨r0,r1,r2,r3,r4,r5⟩:=J6 hz2;have Hz2:=hid hz2;clear hg2 hz2))))
  all_goals (go_wp2_with fail;go_meet)
  all_goals first
   |exact⟨rfl,_,v,HvB,rfl,hid (Zd HgB.out _),hid (La _ _)⟩
   |exact⟨rfl,_,v,HvB,rfl,hid (Chg.after HgB.out (Jm _ _ _ _ _ _ _ _) (fun n hn q=>by have:=HgA.out.size;omega)),hid (Y8 Hz2.out _ _ _)⟩
 case rest=>
  obtain⟨rfl,b4,v,hvb,rfl,hgx,hbx⟩:=hcut;obtain⟨-,-,y1⟩:=HSc.out _ hgx.out;have v0:=(Za hbx.out).1 0;have v1:=(Za hbx.out).1 1;have v2:=(Za hbx.out).1 2;have hn:=Hn.out _ hgx.out v;rw[Hv.out v hvb.out] at hn;have Hs1:=hid (Hs.out _ hgx.out);clear hgx hbx k1 k2 k3;go_wp2_with (go_at_call 175;refine hn.mono ?_;rintro e w2 ⟨rfl,hm,hs⟩);go_end0;exact⟨rfl,_,hm,Hs1.out.trans hs⟩
end

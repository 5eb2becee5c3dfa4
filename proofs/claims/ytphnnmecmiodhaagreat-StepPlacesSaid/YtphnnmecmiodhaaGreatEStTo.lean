/- The machine of package step. Conditions in it. -/
import Derived.Test.YtphnnmecmiodhaaGreatESz
set_option maxHeartbeats 8000000
set_option maxRecDepth 100000
set_option linter.all false
namespace Go.Proofs.YtphnnmecmiodhaaGreat
open Lib(hid)
open Go.RowKit Go.Shelf
variable {wB:Bs} {lo ms:Nat} {vp:Value} {p:GProg} {W W':World} {g:SAd} {s:GM} {l:List GAct} {a:GAct} {z:GIns} {A7 A8:Option Addr} {d7 d8:Nat}
theorem Zwf (y:GBlk) (vc:Value) (s:Str) (c:Nat) (w:World) (B:Nat) (hy:BlkAt w B y vc) (hs:s.length<=9223372036854775807) (hc:w.cell? ⟨c,0,none⟩=some (.string ⟨s.toArray⟩)) (hcl:c<w.heap.size):
  Calls Tryz.prog 236 #[.agg #[.string ⟨y.label.toArray⟩,vc],.pointer (some ⟨c,0,none⟩)] w fun e w'=>e=.returned (.bool (y.label == s))/\Below w.heap.size w w':=by
 obtain⟨A5,d5,q5,_,_,_,_⟩:=hy.code.open_;subst q5;have hcn:c≠w.heap.size:=by omega
 go_enter Tryz.func236,Tryz.ntmps236;go_wp2;go_ret;exact⟨by simp,(Below.refl _ w).alloc (Lf _) _⟩
theorem Zls:∀ args w,(callFunc 236 args).run Tryz.prog w=.ok (.enter 236 args) w:=enters_of Tryz.func236 (by kernel_rfl) rfl
theorem Zrj {W2:World} (h:Ma wB ms vp W g s) (hc:Chg (SQ g) W W2) {b j:Nat} {u:Value} (hb:b<wB.heap.size) (hu:W.cell? ⟨b,j,none⟩=some u) (hj:1<=j) (hi:∀ k n,u≠.int k n):W2.cell? ⟨b,j,none⟩=some u:=by
 by_cases q:SQ g b
 ·exfalso
  have h1:=(h.ty q).1;have h2:b=g.h.h:=by have:=h.hh;omega
  rw[h2,(Za h.heap.blk).1 j] at hu
  match j,hj with
  |1,_=>injection hu with hu;exact hi _ _ hu.symm
  |2,_=>injection hu with hu;exact hi _ _ hu.symm
  |j+3,_=>simp at hu
 ·exact (Lj (hc.block b (Lm hb h.chg.size) q)).trans hu
theorem Zvy {p:GProg} {a:GAct} {l:List (GIns×GVal)} {i:Nat} {q:GIns×GVal} (h:l[i]?=some q):Xr p a (l.take (i+1))=(Xr p a (l.take i)).put p q.1.dst q.2:=by
 unfold Xr;rw[Ki h,List.foldl_append];rfl
theorem Zgv (s:GM) (a b:GAct):(s.setTop a).setTop b=s.setTop b:=by simp[GM.setTop]
theorem Zvv {p:GProg} {a:GAct} {fr:Str} {P:List GIns} {k:Nat} {z:GIns} (h:P[k]?=some z):((P.take (k+1)).map (Zbz p a fr)).flatMap Xh=((P.take k).map (Zbz p a fr)).flatMap Xh++Xh (Zbz p a fr z):=by
 rw[Ki h];simp
theorem idx_str {l:List Str} {s:Str} (h:s∈l):idxOf (fun x=>x == s) l=(l.idxOf s:Nat):=by
 have hl:=List.idxOf_lt_length_iff.2 h;refine Qi (fun j hj y hy=>?_) (Ld hl) (by simp[List.getElem_idxOf hl]);obtain⟨h1,h2⟩:=Le hy;have:=List.not_of_lt_findIdx (p:=(· == s)) (xs:=l) hj;rw[<-h2];simpa using this
theorem mto_any (E:StE wB lo ms vp p) (h:Ma wB ms vp W g s) (ha:s.acts=l++[a]) {L:Str} (hL:L.length<=9223372036854775807) {f:GFun} {y y2:GBlk} {c:Nat} {x2:GIns} (hf:p[a.pt.1]?=some f) (hy:f.bk9[a.pt.2.1]?=some y) (hc:idxOf (fun b=>b.label == L) f.bk9=c) (hy2:f.bk9[c]?=some y2)
  (hx2:y2.code[(Yq y2.code).length]?=some x2) (h6:x2.op≠6) (htk:y2.code.take (Yq y2.code).length=Yq y2.code) (hph:∀ z∈Yq y2.code,y.label∈z.lb9/\z.args.length=z.lb9.length) (hlen:y2.code.length<=1000000):
  Calls Tryz.prog 181 #[.pointer (some ⟨g.m,0,none⟩),.string ⟨L.toArray⟩] W (MOut wB ms vp W g (s.jump p L)):=by
 obtain⟨W1,hW1⟩:∃ W1:World,W1=W.alloc (.cells #[.string ⟨L.toArray⟩] 9):=⟨_,rfl⟩
 have hg1:W.grownBy W1 none:=by rw[hW1];exact Lc _ _ _
 have hbL:W1.heap[W.heap.size]?=some (.cells #[.string ⟨L.toArray⟩] 9 (0,0)):=by rw[hW1];exact La _ _
 have h1:=h.grow hg1;obtain⟨gb,cg,ad,e1,e2,e3,e4,e5,c1,c2,c3⟩:=h1.top ha;have hP:=E.progAt h1;obtain⟨A0,c0,e0,m1,m2,m3,-⟩:=hP.open_;have hp10:W1.cell? ⟨g.m,10,none⟩=some vp:=h1.cell 10;rw[e0] at hP hp10;have hil:=(Le hf).1;obtain⟨f',g1,o1,hf',rfl,hg1',hr1⟩:=hP.at_ hil;rw[hf] at hf'
 cases hf'
 obtain⟨A1,d1,A2,d2,hF,n1,n2,c0',c1',c2'⟩:=Yh hr1;have hbl:=(Le hy).1;have hcl:=(Le hy2).1;obtain⟨q1,q2,q3,q4,q5,q6,q7⟩:=hF.bk9.open_
 cases q3
 obtain⟨y',g2,o2,hy',rfl,hg2,hr2⟩:=hF.bk9.at_ hbl;rw[hy] at hy'
 cases hy'
 obtain⟨A3,d3,hB,n3,b3,b4⟩:=Yg hr2;obtain⟨y',g2',o2',hy',eA,hg2',hr3⟩:=hF.bk9.at_ hcl;rw[hy2] at hy'
 cases hy'
 cases eA
 obtain⟨A4,d4,hB2,n4,b5,b6⟩:=Yg hr3;have HCode:=hid hB2.code;have hwB:=h1.chg.size;have hidx:=fun (w:World) (hg:W1.grownBy w none)=>Kn (.slice (some ⟨g2,o2,none⟩) f.bk9.length d2) f.bk9 236 #[.pointer (some ⟨W.heap.size,0,none⟩)] w wB.heap.size (fun b=>b.label == L) (by have:=hg.size;omega) (hF.bk9.below blkR.keeps (Zk hg) hwB) Zls
  (fun x vc W' hW hx=>by
   have hw:=hW.size
   have hlt:W.heap.size<W1.heap.size:=Ze hbL
   have:=hg.size
   exact (Zwf x vc L W.heap.size W' wB.heap.size hx hL ((hW.cell (p:=⟨W.heap.size,0,none⟩) (by simp only;omega)).trans (Zp hg ((Za hbL).1 0))) (by omega)).mono fun e w' h=>⟨h.1,hW.trans (h.2.mono hW.size)⟩)
 rw[hc] at hidx;have ht:=Vo h1 ha e4;have hcy:=hid (And.intro hc hy2);have HB0:=hid (And.intro hg1' (And.intro hg2 e4))
 have HR:=hid (show ∀ W',W1.grownBy W' none->W'.cell? ⟨g.m,10,none⟩=some (.slice (some ⟨g1,o1,none⟩) p.length c0)/\W'.cell? ⟨ad.1,0,none⟩=some (.int .i64 a.pt.1)/\W'.cell? ⟨ad.1,1,none⟩=some (.int .i64 a.pt.2.1)/\W'.cell? ⟨g1,o1+a.pt.1*3+2,none⟩=some (.slice (some ⟨g2,o2,none⟩) f.bk9.length d2)/\W'.cell? ⟨g2,o2+a.pt.2.1*2,none⟩=some (.string ⟨y.label.toArray⟩)/\W'.cell? ⟨g2,o2+c*2+1,none⟩=some (.slice A4 y2.code.length d4) from
                   fun W' hg=>⟨Zp hg hp10,Zp hg ((Za c2).1 0),Zp hg ((Za c2).1 1),Zp hg c2',Zp hg b3,Zp hg b6⟩)
 have H1:=hid h1;have HE:=hid E;have Hidx:=hid hidx;have Hs:=hid (show ∀ W',W1.grownBy W' none->Stp W g W' g from fun W' hg=>(Stp.refl W g).grow (Zb hg1 hg));have HP:=hid (And.intro hx2 (And.intro h6 (And.intro htk (And.intro hph (And.intro ha (And.intro hf hy))))));clear h h1 E hidx hP hF hB hB2 hr1 hr2 hr3 hx2 h6 htk hph hf hy hy2 hc ha hp10 e0 e1 e2 e3 e4 e5 c1 c2 c3 c0' c1' c2' b3 b4 b5 b6 q7 hbL hg1 hg1' hg2 hg2' q4;go_enter Tryz.func181,Tryz.ntmps181;go_upto_region 1 with (fail)
 rw[<-hW1];clear hW1;have hg:=Lb W1 none;go_upto_region 2 with (go_at_call 78;refine ht.mono ?_;rintro e w2 ⟨rfl,nn,hnn⟩;have hg:W1.grownBy w2 none:=hnn▸Zg hg nn;clear hnn)
 obtain⟨r1,r2,r3,r4,r5,r6⟩:=HR.out _ hg;go_quiet (fail);obtain⟨wa,hwa⟩:∃ w:World,w=w2.drewN nq:=⟨_,rfl⟩
 rw[<-hwa];replace hg:W1.grownBy wa none:=hwa▸Zg hg nq;clear hwa r1 r2 r3 r4 r5 r6;obtain⟨r1,r2,r3,r4,r5,r6⟩:=HR.out wa hg;go_upto_region 3 with (fail)
 go_quiet (fail);obtain⟨wc,hwc⟩:∃ w:World,w=wa.drewN nq:=⟨_,rfl⟩
 rw[<-hwc];replace hg:W1.grownBy wc none:=hwc▸Zg hg nq;clear hwc r1 r2 r3 r4 r5 r6;obtain⟨r1,r2,r3,r4,r5,r6⟩:=HR.out wc hg;have hix:=Hidx.out _ hg;go_upto_region 5 with (go_at_call 166;refine hix.mono ?_;rintro e w5 ⟨rfl,hb5⟩;have hg5:=Zb hg (Zj hb5))
 obtain⟨r1,r2,r3,r4,r5,r6⟩:=HR.out _ hg5;obtain⟨np,hnp⟩:∃ np,np=(Yq y2.code).length:=⟨_,rfl⟩
 have Hnp:=hid hnp;have hnl:np<y2.code.length:=by have:=(Le HP.out.1).1;omega
 have Hg5:=hid hg5;clear hb5 hg5 hg hix r1 r2 r3 r5 ht hnp;go_wp2_with fail;go_loopw [8,53] (fun s8 s53 wr=>∃ k:Nat,k<=np/\s53=.int .i64 k/\∃ A cA,s8=.slice A k cA/\Hid (wr.ownsRow w5.heap.size 72 3 (.slice A k cA) k ((((Yq y2.code).take k).map (Zbz p a y.label)).flatMap Xh))/\Hid (w5.grownBy wr none)) (fun _ s53 _=>y2.code.length-(intOf s53).toNat)
 case atStart=>exact⟨0,Ln _,rfl,none,0,rfl,World.ownsRow_nil _ _ _ _,Lb _ _⟩
 case round=>
  obtain⟨k,hk,rfl,A,cA,rfl,hown,hgr⟩:=hrel;have hgW:=Zb Hg5.out hgr.out;have hkl:k<y2.code.length:=by omega
  obtain⟨z,gz,oz,hz,rfl,hzl,hzr⟩:=(HCode.out.below insR.keeps (Zk hgW) hwB).at_ hkl;obtain⟨B1,b1,B2,b2,hI,v1,v2,i0,i1,i2,i3,i4,i5,i6,i7⟩:=Yw hzr
  by_cases hkn:k<np
  ·have hzp:(Yq y2.code)[k]?=some z:=by
    rw[<-HP.out.2.2.1,List.getElem?_take];rw[<-Hnp.out,if_pos hkn];exact hz
   have hz6:=(Zey _ z (Ll hzp)).1;obtain⟨hlm,hla⟩:=HP.out.2.2.2.1 z (Ll hzp);rw[hz6] at i0;have hji:=List.idxOf_lt_length_iff.2 hlm;obtain⟨ji,hjd⟩:∃ ji,ji=z.lb9.idxOf y.label:=⟨_,rfl⟩
   obtain⟨t,gt,ot,ht,rfl,hgt,htc,-⟩:=hI.args.at_ (show ji<z.args.length by omega);rw[Nat.mul_one] at htc;have hpv:Zbz p a y.label z=a.has p t:=by
    unfold Zbz;rw[<-hjd,ht];rfl
   have Hst:=hid (show _=_ from (Zvv (p:=p) (a:=a) (fr:=y.label) hzp).trans (by rw[hpv]));obtain⟨wb,hwb⟩:∃ wb:World,wb=wr.alloc (.cells #[.int .u8 6,.string ⟨z.dst.toArray⟩,.string ⟨z.a.toArray⟩,.string ⟨z.b.toArray⟩,.int .i64 z.n,.string ⟨z.fn.toArray⟩,.slice (some ⟨gt,ot,none⟩) z.args.length b1,.slice B2 z.lb9.length b2] 25):=⟨_,rfl⟩
   have hgb:wr.grownBy wb none:=by rw[hwb];exact Lc _ _ _
   have hbb:wb.heap[wr.heap.size]?=some (.cells #[.int .u8 6,.string ⟨z.dst.toArray⟩,.string ⟨z.a.toArray⟩,.string ⟨z.b.toArray⟩,.int .i64 z.n,.string ⟨z.fn.toArray⟩,.slice (some ⟨gt,ot,none⟩) z.args.length b1,.slice B2 z.lb9.length b2] 25 (0,0)):=by rw[hwb];exact La _ _
   have u0:wb.cell? ⟨wr.heap.size,0,none⟩=some (.int .u8 6):=(Za hbb).1 0;have HB:=hid (show ∀ W',wb.grownBy W' none->W'.cell? ⟨wr.heap.size,6,none⟩=some (.slice (some ⟨gt,ot,none⟩) z.args.length b1)/\W'.cell? ⟨wr.heap.size,7,none⟩=some (.slice B2 z.lb9.length b2)/\W'.cell? ⟨gt,ot+ji,none⟩=some (.string ⟨t.toArray⟩) from fun W' hg=>⟨Zp hg ((Za hbb).1 6),Zp hg ((Za hbb).1 7),Zp hg (Zp hgb htc)⟩)
   have Hx:=hid (show ∀ W',wb.grownBy W' none->Calls Tryz.prog 228 #[.slice B2 z.lb9.length b2,.string ⟨y.label.toArray⟩] W' fun e w'=>e=.returned (.int .i64 ji)/\W'=w' from fun W' hg=>by
    have:=Zir (.slice B2 z.lb9.length b2) z.lb9 y.label W' W'.heap.size ((hI.lb9.below strR.keeps (Zk (Zb hgb hg)) (by have:=hgW.size;omega)).more strR.keeps (by have:=(Zb hgb hg).size;have:=hgW.size;omega))
    rw[idx_str hlm,<-hjd] at this
    exact this)
   obtain⟨vv,hvv⟩:∃ vv,vv=a.has p t:=⟨_,rfl⟩
   have Hh:=hid (fun (W':World) (hg:wb.grownBy W' none)=>Uj HE.out (H1.out.grow (Zb hgW (Zb hgb hg))) HP.out.2.2.2.2.1 t);rw[<-hvv] at Hst Hh;unfold Yf at Hh;have hjl:ji<z.args.length:=by omega
   have Hgb:=hid hgb;have hgB:=Lb wb none;clear hI hzr hz hzp hz6 hlm hla hpv hgb hbb ht htc hjd hji hvv;go_upto_region 9 with (fail)
   rw[<-hwb];clear hwb i0 i1 i2 i3 i4 i5 i6 i7;go_upto_region 10 with (fail)
   obtain⟨x6,x7,xt⟩:=HB.out _ hgB;have hsz:w5.heap.size<=wb.heap.size:=by have:=hgr.out.size;have:=Hgb.out.size;omega
   have HownG:=hid (show ∀ W',wb.grownBy W' none->W'.ownsRow w5.heap.size 72 3 (.slice A k cA) k ((((Yq y2.code).take k).map (Zbz p a y.label)).flatMap Xh) from fun W' hg=>(Chg.grown (Q:=fun _=>False) (Zb Hgb.out hg) (fun r e=>by cases e)).owns hown.out (fun _ _ e=>e));clear hown
   go_region_law (first
                  |(go_simp;go_at_call 228;go_must (first|(refine (Hx.out _ (Zf hgB)).mono ?_;rintro e w3 ⟨rfl,rfl⟩)|(refine (Hx.out _ hgB).mono ?_;rintro e w3 ⟨rfl,rfl⟩)))
                  |(go_simp;go_at_call 176;go_must (first|(refine (Hh.out _ (Zf hgB)).mono ?_;rintro e w3 ⟨rfl,hg3⟩;have Hg3:=hid (Zb (Zf hgB) hg3);have hs3:=hg3.size;clear hg3)|(refine (Hh.out _ hgB).mono ?_;rintro e w3 ⟨rfl,hg3⟩;have Hg3:=hid hg3;have hs3:=hg3.size;clear hg3)))
                  |((refine Uw rfl (.tmp 60) (.tmp 71) 203 rfl w5.heap.size 72 _ 3 24 Tryz.underlying203 Zus rfl (by decide) (.slice A k cA) _ _ rfl ((HownG.out _ Hg3.out).alloc _) w3.heap.size (Xh vv) rfl (by simp[Xh,Value.oneCell']) rfl _ _ (La w3 _) rfl (by unfold maxLen;omega) (by omega) (by have:=Hg3.out.size;simp;omega) ?_);intro G cap w4 ho hg4 hor;have Ho:=hid ho;have Hg4:=hid hg4;clear ho hg4 hor))
   all_goals (go_wp2_with fail;go_roundw)
   all_goals first
    |(case rel=>
      have hgn:w5.grownBy w4 none:=by
       have h1:=Zb hgr.out (Zb Hgb.out Hg3.out)
       refine Chg.after (Q:=fun n=>(Value.slice A k cA).ownBlock=some n) h1 ((Chg.alloc _ _ _).trans (Chg.grown (Q:=fun n=>(Value.slice A k cA).ownBlock=some n) Hg4.out (fun r e=>e)) (fun _ _ e=>e)) (fun n hn e=>?_)
       have:=((HownG.out _ Hg3.out).lt n e).1
       omega
      exact⟨k+1,by omega,by go_num,_,_,rfl,hid (by rw[Hst.out];exact Ho.out),hid hgn⟩)
    |skip
   all_goals (simp[intOf];omega)
  ·obtain rfl:k=np:=by omega
   have hz6:¬ ((z.op:Int)=6):=by
    have:=HP.out.1;rw[<-Hnp.out,hz] at this
    cases this
    have:=HP.out.2.1;omega
   rw[List.take_of_length_le (by rw[Hnp.out];exact Nat.le_refl _)] at hown;have HZ:=hid hzl;clear hzr hz hI hkn hk hzl;go_upto_region 9 with (fail)
   obtain⟨wb,hwb⟩:∃ wb:World,wb=wr.alloc (.cells #[.int .u8 z.op,.string ⟨z.dst.toArray⟩,.string ⟨z.a.toArray⟩,.string ⟨z.b.toArray⟩,.int .i64 z.n,.string ⟨z.fn.toArray⟩,.slice B1 z.args.length b1,.slice B2 z.lb9.length b2] 25):=⟨_,rfl⟩
   rw[<-hwb];have hgb:wr.grownBy wb none:=by rw[hwb];exact Lc _ _ _
   have hbb:wb.heap[wr.heap.size]?=some (.cells #[.int .u8 z.op,.string ⟨z.dst.toArray⟩,.string ⟨z.a.toArray⟩,.string ⟨z.b.toArray⟩,.int .i64 z.n,.string ⟨z.fn.toArray⟩,.slice B1 z.args.length b1,.slice B2 z.lb9.length b2] 25 (0,0)):=by rw[hwb];exact La _ _
   have u0:wb.cell? ⟨wr.heap.size,0,none⟩=some (.int .u8 z.op):=(Za hbb).1 0;have Hown:=hid ((Chg.grown (Q:=fun _=>False) hgb (fun r e=>by cases e)).owns hown.out (fun _ _ e=>e));have HgW:=hid (Zb hgW hgb);clear hwb i0 i1 i2 i3 i4 i5 i6 i7 hbb hgb hown hgW;go_wp2_with fail;obtain⟨Z,hZ⟩:∃ Z:List (GIns×GVal),Z=(Yq y2.code).zip ((Yq y2.code).map (Zbz p a y.label)):=⟨_,rfl⟩
   have HZ2:=hid hZ;have hZl:Z.length=k:=by rw[hZ,List.length_zip,List.length_map,Nat.min_self,Hnp.out]
   have hM0:Ma wB ms vp wb g (s.setTop (Xr p a (Z.take 0))):=by
    have:=H1.out.grow HgW.out;have e:s.setTop (Xr p a (Z.take 0))=s:=by
     have:=HP.out.2.2.2.2.1
     cases s
     simp only at this;simp[GM.setTop,Xr,this]
    rw[e];exact this
   have HM0:=hid hM0;have hS0:=hid ((Stp.refl W1 g).grow HgW.out);clear hM0 hZ;go_loopw [76] (fun s76 wr=>∃ i:Nat,i<=k/\s76=.int .i64 i/\Hid (Ma wB ms vp wr g (s.setTop (Xr p a (Z.take i))))/\Hid (Chg (SQ g) wb wr)) (fun s76 _=>k-(intOf s76).toNat)
   case atStart=>exact⟨0,Ln _,rfl,HM0.out,Chg.refl _ _⟩
   case round=>
    obtain⟨i,hi,rfl,hM,hC⟩:=hrel
    by_cases hik:i<k
    ·obtain⟨zi,hzi⟩:∃ zi,(Yq y2.code)[i]?=some zi:=⟨_,Ld (by rw[<-Hnp.out];exact hik)⟩
     obtain⟨vv,hvv⟩:∃ vv,vv=Zbz p a y.label zi:=⟨_,rfl⟩
     have hzv:((Yq y2.code).map (Zbz p a y.label))[i]?=some vv:=by rw[List.getElem?_map,hzi,hvv];rfl
     have hZi:Z[i]?=some (zi,vv):=by rw[HZ2.out];exact List.getElem?_zip_eq_some.2 ⟨hzi,hzv⟩
     have Hps:=hid (Zvy (p:=p) (a:=a) hZi)
     have hor:=hC.out.owns Hown.out (fun n e q=>by
      have h1:=(Hown.out.lt n e).1
      have h2:=H1.out.lt q
      have h3:=Hg5.out.size
      omega)
     obtain⟨A',c',e,-,-,k3,k4⟩:=Zz hor;injection e with e1 e2 e3
     subst e1 e3
     cases A with
     |none=>exact absurd (k3 rfl).1 (by omega)
     |some bA=>
      obtain⟨e2,-,-⟩:=k4 bA rfl;obtain⟨G,hG⟩:∃ G,G=bA.block:=⟨_,rfl⟩
      rw[<-hG] at e2;subst e2;obtain⟨-,-,kc1,kc2,hcl⟩:=Xm hor;have hcv:∀ j u,(Xh vv)[j]?=some u->wr.cell? ⟨G,i*3+j,none⟩=some u:=fun j u hj=>by
       refine hcl _ _ ?_;rw[Qz (sz:=3) (fun _ _=>rfl) hzv (by have:=(List.getElem?_eq_some_iff.1 hj).1;simpa [Xh] using this)];exact hj
      have y0:wr.cell? ⟨G,i*3,none⟩=some (.int .u8 vv.kind):=hcv 0 _ rfl;have y1:wr.cell? ⟨G,i*3+1,none⟩=some (.int .i64 vv.obj):=hcv 1 _ rfl;have y2':wr.cell? ⟨G,i*3+2,none⟩=some (.int .i64 vv.n):=hcv 2 _ rfl;obtain⟨wx,hwx⟩:∃ wx:World,wx=wr.alloc (.cells #[.int .u8 vv.kind,.int .i64 vv.obj,.int .i64 vv.n] 72):=⟨_,rfl⟩
      have hgx:wr.grownBy wx none:=by rw[hwx];exact Lc _ _ _
      have hbx:wx.heap[wr.heap.size]?=some (.cells #[.int .u8 vv.kind,.int .i64 vv.obj,.int .i64 vv.n] 72 (0,0)):=by rw[hwx];exact La _ _
      have hMx:=hM.out.grow hgx;have hcb:=fun (W':World) (hg:wx.grownBy W' none) {b j:Nat} {u:Value} (hq:b<wB.heap.size) (hu:W1.cell? ⟨b,j,none⟩=some u) (hj:1<=j) (hi:∀ k n,u≠.int k n)=>Zrj (W2:=W') H1.out (((Chg.grown (Q:=SQ g) HgW.out (fun r e=>by cases e)).trans hC.out (fun _ _ e=>e)).trans (Chg.grown (Q:=SQ g) (Zb hgx hg) (fun r e=>by cases e)) (fun _ _ e=>e)) hq hu hj hi
      obtain⟨zi',gz',oz',hz',eA,hzl',hzr'⟩:=HCode.out.at_ (show i<y2.code.length by omega);have hzz:zi=zi':=by
       rw[<-HP.out.2.2.1,List.getElem?_take,if_pos (by rw[<-Hnp.out];exact hik),hz'] at hzi;injection hzi with hzi
       exact hzi.symm
      subst hzz;injection eA with eA
      injection eA with eA1 eA2
      subst eA1 eA2;obtain⟨-,-,-,-,-,-,-,-,i1,-⟩:=Yw hzr';obtain⟨-,-,-,t4,-,t6⟩:=HR.out W1 (Lb _ _)
      have HX:=hid (show ∀ W',wx.grownBy W' none->W'.cell? ⟨g1,o1+a.pt.1*3+2,none⟩=some (.slice (some ⟨g2,o2,none⟩) f.bk9.length d2)/\W'.cell? ⟨g2,o2+c*2+1,none⟩=some (.slice (some ⟨gz,oz,none⟩) y2.code.length d4)/\W'.cell? ⟨gz,oz+i*8+1,none⟩=some (.string ⟨zi.dst.toArray⟩)/\W'.cell? ⟨wr.heap.size,0,none⟩=some (.int .u8 vv.kind)/\W'.cell? ⟨wr.heap.size,1,none⟩=some (.int .i64 vv.obj)/\W'.cell? ⟨wr.heap.size,2,none⟩=some (.int .i64 vv.n) from
                        fun W' hg=>⟨hcb W' hg HB0.out.1 t4 (by omega) (fun k n e=>by cases e),hcb W' hg HB0.out.2.1 t6 (by omega) (fun k n e=>by cases e),hcb W' hg hzl' i1 (by omega) (fun k n e=>by cases e),Zp hg ((Za hbx).1 0),Zp hg ((Za hbx).1 1),Zp hg ((Za hbx).1 2)⟩)
      have hsa:=X0 (Xr p a (Z.take i)) HP.out.2.2.2.2.1
      have Hset:=hid (fun (W':World) (hg:wx.grownBy W' none)=>show Calls Tryz.prog 232 #[.pointer (some ⟨g.m,0,none⟩),.string ⟨zi.dst.toArray⟩,.agg #[.int .u8 vv.kind,.int .i64 vv.obj,.int .i64 vv.n]] W' (fun e w'=>e=.returned (.tuple #[])/\Ma wB ms vp w' g (s.setTop (Xr p a (Z.take (i+1))))/\Chg (SQ g) wb w') from
                          (Zmi HE.out (hMx.grow hg) hsa zi.dst vv).mono fun e w' h=>⟨h.1,by rw[Hps.out,<-Zgv s (Xr p a (Z.take i))];exact h.2.1,(hC.out.trans (Chg.grown (Q:=SQ g) (Zb hgx hg) (fun r e=>by cases e)) (fun _ _ e=>e)).trans h.2.2.chg (fun _ _ e=>e)⟩)
      have hiy:i<y2.code.length:=by omega
      have hg:=Lb wx none;obtain⟨r1,r2,r3,r4,r5,r6⟩:=HX.out _ hg;clear hG hzi hvv hzv hZi hor k3 k4 hcl hcv hMx hcb hz' hzr' i1 t4 t6 hsa hgx hbx hM hC e2 hzl';go_upto_region 15 with (fail)
      rw[<-hwx];clear hwx y0 y1 y2';go_region_law ((go_simp;go_at_call 232;first|(refine (Hset.out _ (Zf hg)).mono ?_;rintro e w3 ⟨rfl,hm,hc⟩;have Hm:=hid hm;have Hc:=hid hc;clear hm hc)|(refine (Hset.out _ hg).mono ?_;rintro e w3 ⟨rfl,hm,hc⟩;have Hm:=hid hm;have Hc:=hid hc;clear hm hc)))
      all_goals (go_wp2_with fail;go_roundw)
      all_goals first
       |(case rel=>exact⟨.int .i64 i,.pointer (some ⟨wr.heap.size,0,none⟩),.int .i64 ((i:Int)+1),⟨i+1,by omega,by go_num,Hm.out⟩,rfl,rfl,rfl⟩)
       |skip
      all_goals (simp[intOf];omega)
    ·obtain rfl:i=k:=by omega
     rw[<-hZl,List.take_length] at hM;have ha2:=X0 (Xr p a Z) HP.out.2.2.2.2.1;obtain⟨gb',cg',ad',f1,f2,f3,f4,f5,d1,d2',d3'⟩:=hM.out.top ha2;have hne:=(HB0.out.2.2).symm.trans f4;injection hne with hne
     subst hne;have hpt:(Xr p a Z).pt=a.pt:=Zaa p Z a;have v1':wr.cell? ⟨ad.1,1,none⟩=some (.int .i64 (Xr p a Z).pt.2.1):=(Za d2').1 1;have v2':wr.cell? ⟨ad.1,2,none⟩=some (.int .i64 (Xr p a Z).pt.2.2):=(Za d2').1 2;have w1':=(Za d2').2 1;have w2':=(Za d2').2 2;obtain⟨q1,q2⟩:=hM.out.setA doObj_ok f4 f5 (x':={ Xr p a Z with pt:=(a.pt.1,c,i) }) (W':=(wr.setCell ⟨ad.1,1,none⟩ (.int .i64 c)).setCell ⟨ad.1,2,none⟩ (.int .i64 i)) ((Chg.set (Q:=fun n=>n=ad.1\/n=ad.2) wr (p:=⟨ad.1,1,none⟩) (.inl rfl) _).trans (Chg.set (Q:=fun n=>n=ad.1\/n=ad.2) _ (p:=⟨ad.1,2,none⟩) (.inl rfl) _) (fun _ _ e=>e))
      (by
       have:=Zs (Zs d2' 1 (.int .i64 c)) 2 (.int .i64 i)
       unfold Zaq at this ⊢
       simpa [hpt] using this)
      ((Below.heap_setCell _ _ _ _ (Ko d2' d3').symm).trans ((Below.heap_setCell _ _ _ _ (Ko d2' d3').symm).trans d3'))
     have hst:s.jump p L={ s.setTop (Xr p a Z) with acts:=(s.setTop (Xr p a Z)).acts.set l.length { Xr p a Z with pt:=(a.pt.1,c,i) } }:=by
      rw[Q9 ha2,Zgv];unfold GM.jump GAct.jump;rw[X1 HP.out.2.2.2.2.1];have hbs:Yx p a.pt.1=f.bk9:=by simp[Yx,HP.out.2.2.2.2.2.1]
      have hlb:Yo f.bk9 a.pt.2.1=y.label:=by simp[Yo,HP.out.2.2.2.2.2.2]
      have hco:Vy p a.pt.1 c=y2.code:=by simp[Vy,hbs,hcy.out.2]
      simp only[hbs,hcy.out.1,Int.toNat_natCast,hco,hlb];rw[<-HZ2.out,<-Hnp.out]
     rw[<-hst] at q1;have Hq:=hid (And.intro q1 ((((Hs.out W1 (Lb _ _)).grow HgW.out).trans ⟨hC.out,fun n hn=>.inl hn,rfl,rfl⟩).trans q2));clear q1 q2 hst hM hC ha2 f1 f2 f3 f4 f5 d1 d2' d3' hpt;go_wp2_with fail;go_end0;exact⟨rfl,_,Hq.out⟩

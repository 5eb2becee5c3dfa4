/- The contract of gnomonref01. Conditions in it. -/
import Derived.Test.YtlcogjllnbfneaaGreatEKh
import Derived.Test.YtlcogjllnbfneaaGreatELsf
import Derived.Test.YtlcogjllnbfneaaGreatESitN
import Derived.Test.YtlcogjllnbfneaaGreatESitR
set_option maxHeartbeats 4000000
set_option maxRecDepth 100000
set_option linter.all false
namespace Go.Proofs.YtlcogjllnbfneaaGreat
open Lib(hid)
section
open Go.RowKit Go.Shelf
theorem Yjk (l1 l2:List Int) (v1 v2:Value) (B:Nat) (w:World) (h1:SlAt intR 1 w B v1 l1) (h2:SlAt intR 1 w B v2 l2) (hB:B<=w.heap.size):
  Calls Tryz.prog 45 #[v1,v2] w fun e w'=>e=.returned (.bool (decide (l1=l2)))/\w.grownBy w' none:=by
 obtain⟨A1,c1,rfl,m1,m2,m3,h1⟩:=h1.open_;obtain⟨A2,c2,rfl,n1,n2,n3,h2⟩:=h2.open_;have H1:=hid h1;have H2:=hid h2;clear h1 h2;go_enter Tryz.func45,Tryz.ntmps45
 by_cases hl:l1.length=l2.length
 ·have hli:(l1.length:Int)=(l2.length:Int):=by omega
  go_wp2;go_loopw [5] (fun s5 wr=>∃ k:Nat,k<=l1.length/\s5=.int .i64 k/\Hid (w.grownBy wr none)/\Hid (l1.take k=l2.take k)) (fun s5 _=>l1.length-(intOf s5).toNat)
  case atStart=>exact⟨0,Ln _,rfl,Lb _ _,hid (by rw[List.take_zero,List.take_zero])⟩
  case round=>
   obtain⟨k,hk,rfl,hg,he⟩:=hrel
   by_cases hkl:k<l1.length
   ·have hkl2:k<l2.length:=by omega
    obtain⟨x,b,off,hx,rfl,hb,hx0,hx1,hx2⟩:=H1.out.at_ hkl;obtain⟨y,b2,off2,hy,rfl,hb2,hy0,hy1,hy2⟩:=H2.out.at_ hkl2;rw[Nat.mul_one] at hx0 hy0;have hx0':=cur (Zk hg.out) (by omega:b<w.heap.size) hx0;have hy0':=cur (Zk hg.out) (by omega:b2<w.heap.size) hy0;have Hx:=hid hx;have Hy:=hid hy;clear hx hy hx0 hy0
    by_cases hxy:x=y
    ·subst hxy;go_upto_region 6 with (fail)
     go_quiet (fail);go_wp2_with fail;go_roundw
     case rel=>exact⟨k+1,by omega,by go_num,Zg hg.out _,hid (by rw[List.take_add_one,List.take_add_one,Hx.out,Hy.out,he.out])⟩
     case measure=>simp[intOf];omega
    ·have hne:l1≠l2:=fun e=>hxy (by have h3:=Hx.out;rw[e,Hy.out] at h3;injection h3 with h3;exact h3.symm)
     have hd:decide (l1=l2)=false:=decide_eq_false hne;have Hd:=hid hd;clear hne hd;go_upto_region 6 with (fail)
     go_quiet (fail);go_wp2_with fail;go_ret;exact⟨by rw[Hd.out];simp,Zg hg.out _⟩
   ·obtain rfl:k=l1.length:=by omega
    have hd:decide (l1=l2)=true:=decide_eq_true (by
     have h3:=he.out
     rw[List.take_length,hl,List.take_length] at h3
     exact h3)
    have Hd:=hid hd;clear hd;go_wp2;go_ret;exact⟨by rw[Hd.out];simp,hg.out⟩
 ·have hli:¬ (l1.length:Int)=(l2.length:Int):=by omega
  have hd:decide (l1=l2)=false:=decide_eq_false (fun e=>hl (by rw[e]));have Hd:=hid hd;clear hd;go_wp2;go_ret;exact⟨by rw[Hd.out];simp,Lb _ _⟩
end
section
open Go.RowKit Go.Shelf
theorem rowI_at {w:World} {base:Nat} {v:Value} {l:List Int} (h:w.ownsRow base 3 1 v l.length (l.map encI)) (hb:∀ x∈l,-9223372036854775808<=x/\x<=9223372036854775807):SlAt intR 1 w w.heap.size v l:=by
 refine SlAt.of_ownN h rfl (fun g e=>(h.lt g e).2) fun g k x e hx=>?_
 obtain⟨A',c',rfl,_,_,h0,h1⟩:=Zz h
 cases A' with
 |none=>simp[Value.ownBlock] at e
 |some a=>
  obtain⟨ha,-,-⟩:=h1 a rfl;rw[ha] at h e;simp only[Value.ownBlock,Option.map_some,Option.some.injEq] at e;obtain⟨_,_,_,_,h6⟩:=Xm h;have hc:=h6 k (encI x) (by rw[List.getElem?_map,hx];rfl);rw[<-e];refine⟨?_,hb x (Ll hx)⟩;rw[Nat.mul_one];exact hc
theorem Yjg:Y5 kn12p=(0,(0,0,0)):=Zkk (by decide+kernel) (by decide+kernel) (by decide+kernel) (by decide+kernel)
theorem Yiv:(Zh kn12p kn12p.length).vars.length=4/\(Zh kn12p kn12p.length).of.length=3/\(Zh kn12p kn12p.length).pl.length=5/\kn12p.length=2/\(Zh kn12p kn12p.length).of[0]?=some 0/\(Zh kn12p kn12p.length).sites[0]?=some ((1,0,0),0,2)/\Zag kn12p 1 [112]=(1,true)/\Yhk kn12p 0 (pts [⟨[102],kn12l1,kn12l3⟩])=[0]:=by decide+kernel
theorem Yhn (w:World):Calls Tryz.prog 15 #[] w fun e w'=>e=.returned (.bool true)/\w.grownBy w' none:=by
 have hz:(Y5 kn12p).1=0:=by rw[Yjg]
 have hnew:=Zkc kn12p _ (K1 w) (K1 w).heap.size (Lf _) (Yil w) (Zjs (Jt hz)) hz;have Hg0:=hid (Yih w);obtain⟨q1,q2,q3,q4,q5,q6,q7,q8⟩:=Yiv;have HQ:=hid (And.intro q1 (And.intro q2 (And.intro q3 (And.intro q4 (And.intro q5 (And.intro q6 (And.intro q7 q8)))))));clear q1 q2 q3 q4 q5 q6 q7 q8 hz;obtain⟨W0,hW0⟩:∃ W0,W0=K1 w:=⟨_,rfl⟩
 have hkn:=Yjf w;rw[<-hW0] at hnew Hg0 hkn;clear hW0;go_enter Tryz.func15,Tryz.ntmps15;go_upto_region 2 with (first|(go_at_call 59;refine hkn.mono ?_;rintro e w0 ⟨rfl,rfl⟩)|(go_at_call 16;refine hnew.mono ?_;rintro e w1 ⟨m,rfl,hM,hg1⟩))
 have HM:=hid (show ∀ W,w1.grownBy W none->MapL _ W m kn12p from fun W hg=>hM.grown hg);have h1:=Yiz hM HQ.out.2.2.2.2.1 HQ.out.2.2.2.2.2.1 1;have e1:Yhu 0 0 2 1=(1,true):=by decide
 rw[e1] at h1;have HG1:=hid (Zb Hg0.out hg1);clear hnew hM hg1 e1;go_upto_region 5 with (first|(go_at_call 31;refine h1.mono ?_;rintro e w2 ⟨rfl,hg2⟩))
 have h2:=Zbw (HM.out w2 hg2) 1 [112];rw[HQ.out.2.2.2.2.2.2.1] at h2;go_upto_region 6 with (first|(go_at_call 24;refine h2.mono ?_;rintro e w3 ⟨rfl,hg3⟩))
 have hg13:=Zb hg2 hg3;have h3:=Yhq (HM.out w3 hg13);have h4:=Yec (HM.out w3 hg13);have h5:=Yeg (HM.out w3 hg13);have h6:=Yiy (HM.out w3 hg13);rw[HQ.out.1] at h3;rw[HQ.out.2.1,HQ.out.2.2.2.1] at h4;rw[HQ.out.2.1] at h5;rw[HQ.out.2.1,HQ.out.2.2.1] at h6;have Hg13:=hid hg13;have Hr:=hid (fun W (hg:w3.grownBy W none)=>Yix (HM.out W (Zb hg13 hg)) (f:=0) (x:=⟨[102],kn12l1,kn12l3⟩) rfl);clear h1 h2 hg13 hg2 hg3;go_wp2_with (first|(go_at_call 21;refine h3.mono ?_;rintro e w4 ⟨rfl,rfl⟩)|(go_at_call 22;refine h4.mono ?_;rintro e w4 ⟨rfl,rfl⟩)|(go_at_call 34;refine h5.mono ?_;rintro e w4 ⟨rfl,rfl⟩)|(go_at_call 35;refine h6.mono ?_;rintro e w5 ⟨rfl,hg5⟩)|(go_at_call 48;refine (Hr.out w5 hg5).mono ?_;rintro e w6 ⟨v,rfl,ho,hg6⟩));rw[HQ.out.2.2.2.2.2.2.2] at ho;obtain⟨w7,hw7⟩:∃ w7,w7=w6.alloc (.cells #[.int .i64 0] 3):=⟨_,rfl⟩
 have hb7:w7.heap[w6.heap.size]?=some (.cells #[.int .i64 0] 3 (0,0)):=by rw[hw7];exact La w6 _
 have hg67:w6.grownBy w7 none:=by rw[hw7];exact Lc w6 _ none
 have ho7:=(Chg.grown (Q:=fun _=>False) hg67 (fun r e=>by cases e)).owns ho (fun _ _ e=>e);have a1:SlAt intR 1 w7 w7.heap.size v [0]:=rowI_at ho7 (by decide);have a2:SlAt intR 1 w7 w7.heap.size (.slice (some ⟨w6.heap.size,0,none⟩) 1 1) [0]:=Zpm rfl (by decide) (Ze hb7) (V8 ⟨(Za hb7).1 0,by decide⟩ Zfz);have hsm:=Yjk [0] [0] _ _ _ _ a1 a2 (Lf _);rw[show decide (([0]:List Int)=[0])=true from rfl] at hsm;have hG:=Zb HG1.out (Zb Hg13.out (Zb hg5 (Zb hg6 hg67)));have HG:=hid hG;rw[<-hw7];clear hw7 hb7 hg67 ho7 a1 a2 hG ho hg5 hg6;refine hsm.mono ?_;rintro e w8 ⟨rfl,hg8⟩;go_wp2;go_ret;exact⟨rfl,Zb HG.out hg8⟩
end
section
open Go.RowKit Go.Shelf
def LeP (p:GProg):Prop:=∀ f∈p,∀ y∈f.bk9,y.code.length<=1099511627776
structure SmP (p:GProg):Prop where
 funcs:p.length<=6
 each:∀ f∈p,f.bk9.length<=20/\f.params.length<=20
 code:(pts p).length<=120
theorem Yij {p:GProg} {i k:Nat} {bs:List GBlk} {y:GBlk} (hy:bs[k]?=some y):(Vj p i bs (k+1)).length=(Vj p i bs k).length+y.code.length:=by
 rw[Zdy hy (Nat.lt_irrefl _),Xv,List.length_append,Jw,List.take_length]
theorem Yhy (p:GProg) (vp:Value) (w:World) (B:Nat) (hB:B<=w.heap.size) (h:ProgAt w B vp p):Calls Tryz.prog 14 #[.agg #[vp]] w fun e w'=>∃ b,e=.returned (.bool b)/\w.grownBy w' none/\(b=false->LeP p->SmP p):=by
 obtain⟨A,c,rfl,m1,m2,m3,hA⟩:=h.open_;obtain⟨W,hW⟩:∃ W:World,W=w.alloc (.cells #[.slice A p.length c] 47):=⟨_,rfl⟩
 have hgW:w.grownBy W none:=by rw[hW];exact Lc _ _ _
 have hb:W.heap[w.heap.size]?=some (.cells #[.slice A p.length c] 47 (0,0)):=by rw[hW];exact La _ _
 have HS:=hid (show ∀ W',W.grownBy W' none->W'.cell? ⟨w.heap.size,0,none⟩=some (.slice A p.length c) from fun W' hg=>(Lj (hg.block w.heap.size (Ze hb) (by simp))).trans ((Za hb).1 0));have HgW:=hid hgW;have HA:=hid hA;have hc:=HS.out W (Lb _ _);clear hb hgW hA h;go_enter Tryz.func14,Tryz.ntmps14;go_upto_region 1 with (fail)
 rw[<-hW];clear hW
 by_cases h6:(6:Int)<p.length
 ·go_wp2;go_ret;exact⟨_,rfl,HgW.out,fun e=>by cases e⟩
 ·go_wp2;clear hc;go_loopw [3,4] (fun s3 s4 wr=>∃ (z:Int) (i:Nat),i<=p.length/\s3=.int .i64 z/\s4=.int .i64 i/\Hid (W.grownBy wr none)/\Hid ((∀ j,j<i->∀ f,p[j]?=some f->f.bk9.length<=20/\f.params.length<=20)/\(LeP p->z=((X7 p i).length:Int)/\z<=i*21990232555520))) (fun _ s4 _=>p.length-(intOf s4).toNat)
  case atStart=>exact⟨0,0,Ln _,rfl,rfl,hid (Lb _ _),hid ⟨Z2,fun _=>by rw[Kf];simp⟩⟩
  case round=>
   obtain⟨z,i,hi,rfl,rfl,hg,hZ⟩:=hrel;have hc:=HS.out wr hg.out
   by_cases hil:i<p.length
   ·obtain⟨x,b,off,hx,rfl,hbB,hr⟩:=HA.out.at_ hil;obtain⟨A1,d1,A2,d2,hf,n1,n2,e0,e1,e2⟩:=Yh hr;have hbw:b<w.heap.size:=by omega
    have hlow:=Zk (Zb HgW.out hg.out)
    have HF:=hid (show ∀ W',wr.grownBy W' none->W'.cell? ⟨w.heap.size,0,none⟩=some (.slice (some ⟨b,off,none⟩) p.length c)/\W'.cell? ⟨b,off+i*3+1,none⟩=some (.slice A1 x.params.length d1)/\W'.cell? ⟨b,off+i*3+2,none⟩=some (.slice A2 x.bk9.length d2) from fun W' hg'=>by
     have hb':=Zk (Zb HgW.out (Zb hg.out hg'))
     exact⟨HS.out W' (Zb hg.out hg'),cur hb' hbw e1,cur hb' hbw e2⟩)
    obtain⟨k0,k1,k2⟩:=HF.out wr (Lb _ _);have HBl:=hid hf.bk9;have Hx:=hid hx;clear hx hr hf e0 e1 e2 hlow hc
    by_cases hbl:(20:Int)<x.bk9.length
    ·go_wp2;go_ret
     first|exact .inr ⟨rfl,Zb HgW.out hg.out⟩|exact⟨true,rfl,Zb HgW.out hg.out,fun e=>by cases e⟩
    ·by_cases hpl:(20:Int)<x.params.length
     ·go_wp2;go_ret
      first|exact .inr ⟨rfl,Zb HgW.out hg.out⟩|exact⟨true,rfl,Zb HgW.out hg.out,fun e=>by cases e⟩
     ·go_wp2;clear k0 k1 k2;go_loopw [3,5] (fun s3 s5 wi=>∃ (z:Int) (k:Nat),k<=x.bk9.length/\s3=.int .i64 z/\s5=.int .i64 k/\Hid (wr.grownBy wi none)/\Hid (LeP p->z=((Vj p i x.bk9 k).length:Int)/\z<=i*21990232555520+k*1099511627776)) (fun _ s5 _=>x.bk9.length-(intOf s5).toNat)
      case atStart=>exact⟨z,0,Ln _,rfl,rfl,hid (Lb _ _),hid fun h=>by rw[Zdz];have:=hZ.out.2 h;exact⟨this.1,by omega⟩⟩
      case round=>
       obtain⟨z2,k,hk,rfl,rfl,hg2,hZ2⟩:=hrel;obtain⟨k0,k1,k2⟩:=HF.out wr hg2.out
       by_cases hkl:k<x.bk9.length
       ·obtain⟨y,b4,off4,hy,rfl,hb4,hby⟩:=HBl.out.at_ hkl;obtain⟨vc,hyb,y0,y1⟩:=hby;obtain⟨A5,d5,rfl,o1,o2,o3,-⟩:=hyb.code.open_;have y1':=cur (Zk (Zb HgW.out (Zb hg.out hg2.out))) (show b4<w.heap.size by omega) y1
        have HZ3:=hid (show LeP p->wrap64 (z2+(y.code.length:Int))=((Vj p i x.bk9 (k+1)).length:Int)/\wrap64 (z2+(y.code.length:Int))<=i*21990232555520+(k+1:Nat)*1099511627776 from fun h=>by
         obtain⟨q1,q2⟩:=hZ2.out h
         have q3:=h x (Ll Hx.out) y (Ll hy)
         have q4:=Yij (p:=p) (i:=i) hy
         have q5:=(Le Hx.out).1
         unfold wrap64
         rw[q4]
         exact⟨by omega,by omega⟩)
        clear hy y0 y1 hyb;go_wp2;go_roundw
        case rel=>exact⟨_,k+1,by omega,rfl,by go_num,hg2.out,HZ3⟩
        case measure=>simp[intOf];omega
       ·obtain rfl:k=x.bk9.length:=by omega
        go_wp2;go_roundw
        case rel=>exact⟨_,i+1,by omega,rfl,by go_num,hid (Zb hg.out hg2.out),hid ⟨Zw Hx.out hZ.out.1 ⟨by omega,by omega⟩,fun h=>by
         obtain⟨q1,q2⟩:=hZ2.out h
         rw[Jy Hx.out (Nat.lt_irrefl _)]
         exact⟨q1,by omega⟩⟩⟩
        case measure=>simp[intOf];omega
   ·obtain rfl:i=p.length:=by omega
    go_wp2;go_ret;refine⟨_,rfl,Zb HgW.out hg.out,fun e h=>?_⟩;obtain⟨q1,q2⟩:=hZ.out.2 h;rw[Zbb (Nat.lt_irrefl _)] at q1;simp only[decide_eq_false_iff_not] at e
    exact⟨by omega,fun f hf=>by
     obtain⟨j,hj,e2⟩:=List.mem_iff_getElem.1 hf
     exact hZ.out.1 j hj f (by rw[<-e2];exact Ld hj),by omega⟩
theorem Yie (p:GProg) (vp:Value) (w:World) (B:Nat) (hB:B<=w.heap.size) (h:ProgAt w B vp p):Calls Tryz.prog 14 #[.agg #[vp]] w fun e w'=>∃ b,e=.returned (.bool b)/\w.grownBy w' none:=
 (Yhy p vp w B hB h).mono fun e w' ⟨b,h1,h2,_⟩=>⟨b,h1,h2⟩
end

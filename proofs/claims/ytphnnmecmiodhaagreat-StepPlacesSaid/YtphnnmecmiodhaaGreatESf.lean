/- The machine of package step. Conditions in it. -/
import Derived.Test.YtphnnmecmiodhaaGreatESrt
import Derived.Test.YtphnnmecmiodhaaGreatEFp
import Derived.Test.YtphnnmecmiodhaaGreatESl2
set_option maxHeartbeats 8000000
set_option maxRecDepth 100000
set_option linter.all false
namespace Go.Proofs.YtphnnmecmiodhaaGreat
open Lib(hid)
section
open Go.RowKit Go.Shelf
variable {wB:Bs} {lo ms:Nat} {vp:Value} {p:GProg} {W W':World} {g:SAd} {s:GM} {l:List GAct} {a:GAct}
theorem Zys:(Tryz.prog.info? 93).map (fun i=>(i.zero,i.size,i.bytes))=some (some (.agg #[.int .i64 0,.int .i64 0,.int .i64 0,.int .i64 0,.int .i64 0]),5,40):=by kernel_rfl
theorem Zyl (h:Ma wB ms vp W g s) (h0:s.stop≠0):Calls Tryz.prog 41 #[.pointer (some ⟨g.m,0,none⟩)] W fun e w'=>e=.returned (.slice none 0 0)/\W.grownBy w' none:=by
 have hat:=Zvb h h0;clear h;go_enter Tryz.func41,Tryz.ntmps41;go_wp2_with (go_at_call 32;refine hat.mono ?_;rintro e w1 ⟨rfl,hg1⟩);go_ret;exact⟨rfl,by first|exact hg1|exact Zd hg1 _⟩
def Zxt (w:World) (r:Nat):Nat:=match w.heap[r]? with
 |some (.mapIter _ _ seen _)=>seen.size
 |_=>0
theorem RngAt.seen {w:World} {r b:Nat} {m:List (Int×GVal)} {S:List Nat} (h:RngAt encZ Yf w r b m S):Zxt w r=S.length:=by
 obtain⟨c,_,e⟩:=h.it;unfold Zxt;rw[e];simp
theorem RngAt.fewer {w:World} {r b:Nat} {m:List (Int×GVal)} {S:List Nat} (h:RngAt encZ Yf w r b m S):S.length<=m.length:=by
 have hp:S.Perm ((List.range m.length).filter fun i=>S.contains i):=(List.perm_ext_iff_of_nodup h.nd (List.nodup_range.filter _)).2 fun i=>by
  rw[List.mem_filter,List.mem_range,List.contains_iff_mem];exact⟨fun hi=>⟨h.lt i hi,hi⟩,fun hi=>hi.2⟩
 have h1:=hp.length_eq;have h2:=List.length_filter_le (fun i=>S.contains i) (List.range m.length);rw[List.length_range] at h2;omega
def Zwu (p:GProg) (h:GHp) (m:List (Int×GVal)) (S:List Nat):List (Int×Nat):=S.filterMap fun i=>(m[i]?).bind (Zwr p h)
theorem Zxn {p:GProg} {h:GHp} {m:List (Int×GVal)} {S:List Nat} {i:Nat} {q:Int×GVal} (e:m[i]?=some q):Zwu p h m (S++[i])=Zwu p h m S++(Zwr p h q).toList:=by
 unfold Zwu;rw[List.filterMap_append];simp only[List.filterMap_cons,List.filterMap_nil,e,Option.bind_some]
 cases Zwr p h q<;>rfl
structure FcI (p:GProg) (w4:World) (h:GHp) (m:List (Int×GVal)) (q:GPt) (r b:Nat) (wr:World) (S:List Nat) (v:Value) (n:Nat):Prop where
 it:RngAt encZ Yf wr r b m S
 len:n=(Zwu p h m S).length
 row:wr.ownsRow w4.heap.size 93 5 v n ((Zwu p h m S).flatMap (Zwq q))
 gr:w4.grownBy wr (some r)
theorem Zxa {p:GProg} {h:GHp} {m:List (Int×GVal)} {q:GPt} {r b i n o:Nat} {S:List Nat} {k:Int} {x:GVal} {v v':Value} {w4 w6 w8 w9:World} (hk:m[i]?=some (k,x)) (hr:RngAt encZ Yf w6 r b m (S++[i])) (hg:w4.grownBy w6 (some r)) (hn:n=(Zwu p h m S).length) (hf:Zws p h x=some o)
  (hown:w6.ownsRow w4.heap.size 93 5 v n ((Zwu p h m S).flatMap (Zwq q))) (hg8:w6.grownBy w8 none) (hg9:w8.grownBy w9 v.ownBlock) (ho:w9.ownsRow w4.heap.size 93 5 v' (n+1) ((Zwu p h m S).flatMap (Zwq q)++Zwq q (k,o))):FcI p w4 h m q r b w9 (S++[i]) v' (n+1):=by
 have hf1:Zwr p h (k,x)=some (k,o):=by unfold Zwr;rw[hf];rfl
 have hgm:Zwu p h m (S++[i])=Zwu p h m S++[(k,o)]:=by rw[Zxn hk,hf1];rfl
 have hb:=Ze hr.map;obtain⟨c,_,hri⟩:=hr.it;have hri':=Ze hri;refine⟨hr.keep ((hg9.block b (Lm hb hg8.size) fun e=>?_).trans (hg8.block b hb (by simp))) ((hg9.block r (Lm hri' hg8.size) fun e=>?_).trans (hg8.block r hri' (by simp))),?_,?_,(hg.andThen hg8 (fun j hj=>by cases hj)).andThen hg9 (fun j hj=>.inl (hown.lt j hj).1)⟩
 ·obtain⟨cs,hc⟩:=Vh hown e.symm;rw[hr.map] at hc
  cases hc
 ·obtain⟨cs,hc⟩:=Vh hown e.symm;rw[hri] at hc
  cases hc
 ·rw[hgm,List.length_append,<-hn];rfl
 ·rw[hgm,List.flatMap_append];simpa using ho
theorem Zyh {p:GProg} {h:GHp} {m:List (Int×GVal)} {q:GPt} {r b i n:Nat} {S:List Nat} {k:Int} {x:GVal} {v:Value} {w4 w6 w8:World} (hk:m[i]?=some (k,x)) (hr:RngAt encZ Yf w6 r b m (S++[i])) (hg:w4.grownBy w6 (some r)) (hn:n=(Zwu p h m S).length) (hf:Zws p h x=none)
  (hown:w6.ownsRow w4.heap.size 93 5 v n ((Zwu p h m S).flatMap (Zwq q))) (hg8:w6.grownBy w8 none):FcI p w4 h m q r b w8 (S++[i]) v n:=by
 have hf1:Zwr p h (k,x)=none:=by unfold Zwr;rw[hf];rfl
 have hgm:Zwu p h m (S++[i])=Zwu p h m S:=by rw[Zxn hk,hf1];simp
 have hb:=Ze hr.map;obtain⟨c,_,hri⟩:=hr.it;refine⟨hr.keep (hg8.block b hb (by simp)) (hg8.block r (Ze hri) (by simp)),by rw[hgm];exact hn,?_,hg.andThen hg8 (fun j hj=>by cases hj)⟩;rw[hgm];exact (Chg.grown (Q:=fun _=>False) hg8 (fun r e=>by cases e)).owns hown (fun _ _ e=>e)
theorem Zwz {κ β:Type} [BEq κ] [LawfulBEq κ]:∀ {m:List (κ×β)} {k:κ} {v:β},(m.map (·.1)).Nodup->(k,v)∈m->Z6 m k=some v
 |(k',v')::m,k,v,hn,h=>by
  rw[List.map_cons,List.nodup_cons] at hn;unfold Z6
  rcases List.mem_cons.1 h with e|h2
  ·cases e
   simp
  ·have:(k == k')=false:=by
    rw[beq_eq_false_iff_ne];intro e;exact hn.1 (List.mem_map.2 ⟨(k,v),h2,e⟩)
   rw[this];exact Zwz hn.2 h2
theorem Zye {w:World} {base base' sz:Nat} {e:TypeId} {v:Value} {n:Nat} {xs:List Value} (h:w.ownsRow base e sz v n xs) (hb:base'<=base):w.ownsRow base' e sz v n xs:=
 ⟨h.1,h.2.imp id fun ⟨g,cap,cur,e1,h1,r⟩=>⟨g,cap,cur,e1,Nat.le_trans hb h1,r⟩⟩
theorem Zyt {l:List Int} (hn:l.Nodup) {N:Nat} (h:∀ x∈l,0<=x/\x<N):l.length<=N:=by
 have h1:(l.map Int.toNat).Nodup:=by
  rw[List.nodup_iff_pairwise_ne] at hn ⊢;rw[List.pairwise_map];refine hn.imp_of_mem fun {a b} ha hb hne e=>hne ?_
  have:=h a ha;have:=h b hb;omega
 have hp:(l.map Int.toNat).Perm ((List.range N).filter fun i=>(l.map Int.toNat).contains i):=(List.perm_ext_iff_of_nodup h1 (List.nodup_range.filter _)).2 fun i=>by
  rw[List.mem_filter,List.mem_range,List.contains_iff_mem];refine⟨fun hi=>⟨?_,hi⟩,fun hi=>hi.2⟩;obtain⟨x,hx,e⟩:=List.mem_map.1 hi;have:=h x hx;omega
 have h2:=hp.length_eq;have h3:=List.length_filter_le (fun i=>(l.map Int.toNat).contains i) (List.range N);rw[List.length_range] at h3;rw[List.length_map] at h2;omega
theorem Zyi (hN:NOk p) {h:GHp} {a:GAct} (hA:ActOk p h a) (hn:(a.vars.map (·.1)).Nodup):(∀ q∈a.vars,(0<=q.1/\q.1<5000)/\ValOk p h q.2)/\a.vars.length<=5000:=by
 have h1:∀ q∈a.vars,(0<=q.1/\q.1<5000)/\ValOk p h q.2:=fun q hq=>by
  obtain⟨h2,n,t,e,h3⟩:=hA.vals q.1 q.2 (Zwz hn hq);have h4:=(Le h3).1;have h5:=(hN.lens (Lf p.length) (SLe.refl _)).1;exact⟨by omega,h2⟩
 refine⟨h1,?_⟩
 have:=Zyt hn (N:=5000) (fun x hx=>by
  obtain⟨q,hq,rfl⟩:=List.mem_map.1 hx
  exact (h1 q hq).1)
 rwa [List.length_map] at this
theorem Zyr {p:GProg} {h:GHp} {m:List (Int×GVal)} {S:List Nat} {x:Int×Nat} (hx:x∈Zwu p h m S):∃ q∈m,x.1=q.1:=by
 obtain⟨i,-,e⟩:=List.mem_filterMap.1 hx
 cases hq:m[i]? with
 |none=>rw[hq] at e;cases e
 |some q=>rw[hq] at e;exact⟨q,Ll hq,Zwy e⟩
theorem Zxx {p:GProg} {h:GHp} {m:List (Int×GVal)} {S:List Nat}:(Zwu p h m S).length<=S.length:=List.length_filterMap_le _ _
theorem Zyd (E:StE wB lo ms vp p) (h:Ma wB ms vp W g s) (K:GMOk p s) (N:KeysNd s) (ha:s.acts=l++[a]) (h0:s.stop=0):Calls Tryz.prog 41 #[.pointer (some ⟨g.m,0,none⟩)] W fun e w'=>∃ L v,e=.returned v/\Yau p s.heap a.vars L/\w'.ownsRow W.heap.size 93 5 v L.length (L.flatMap (Zwq a.pt))/\W.grownBy w' none:=by
 have hat:=Zql h ha h0;have hnd:=N a (by rw[ha];simp);have hok:=K.acts a (by rw[ha];simp);have H:=hid h;have HK:=hid K;have Ha:=hid ha;have Hnd:=hid hnd;have Hok:=hid hok;have HE:=hid E;clear h K N ha h0 hnd hok E;obtain⟨⟨pf,pb,pi⟩,hpt⟩:∃ q,q=a.pt:=⟨_,rfl⟩
 rw[<-hpt] at hat ⊢;simp only at hat;clear hpt;go_enter Tryz.func41,Tryz.ntmps41;go_upto_region 2 with (go_at_call 32;refine hat.mono ?_;rintro e w1 ⟨rfl,hg1⟩)
 obtain⟨w2,hw2⟩:∃ w2,w2=w1.alloc (.cells #[.int .i64 pf,.int .i64 pb,.int .i64 pi] 41):=⟨_,rfl⟩
 rw[<-hw2];have hg2:W.grownBy w2 none:=by rw[hw2];exact Zd hg1 _
 have hb2:w2.heap[w1.heap.size]?=some (.cells #[.int .i64 pf,.int .i64 pb,.int .i64 pi] 41 (0,0)):=by rw[hw2];exact La _ _
 obtain⟨gb,c,ad,e1,e2,e3,e4,e5,c1,c2,c3⟩:=(H.out.grow hg2).top Ha.out;have ht:=Vo (H.out.grow hg2) Ha.out e4;have hc3:=(Za c2).1 3;have Hg2:=hid hg2;have Hb2:=hid hb2;have Hc3:=hid c3;have HC3:=hid hc3;clear hw2 hg1 hg2 hb2 e1 e2 e3 e4 e5 c1 c2 c3 hc3 hat;go_upto_region 5 with (fail)
 go_upto_region 6 with (first
                        |(go_at_call 78;refine ht.mono ?_;rintro e w3 ⟨rfl,n3,hn3⟩;have hcm:w3.cell? ⟨ad.1,3,none⟩=some (.map (some ad.2)):=(by rw[hn3];exact HC3.out);have Hm3:=hid (show w3.heap[ad.2]?=some (Z7 encZ Yf a.vars) by rw[hn3];exact Hc3.out);have Hg3:=hid (show W.grownBy w3 none from hn3▸Zg Hg2.out n3);have Hb3:=hid (show w3.heap[w1.heap.size]?=some (.cells #[.int .i64 pf,.int .i64 pb,.int .i64 pi] 41 (0,0)) by rw[hn3];exact Hb2.out);clear hn3)
                        |(at_range;refine Zxg _ rfl _ _ rfl 3 72 Tryz.underlying147 ad.2 a.vars rfl Hm3.out ?_;intro w4 hr4 hg4 hs4;have Hr4:=hid hr4;have Hg4:=hid hg4;clear hr4 hg4 hs4;go_frame))
 obtain⟨rI,hrI⟩:∃ rI,rI=w3.heap.size:=⟨_,rfl⟩
 rw[<-hrI] at Hr4 ⊢;have HrI:=hid (And.intro hrI (show W.heap.size<=rI by rw[hrI];exact Hg3.out.size));have HW:=hid (show ∀ wr,w4.grownBy wr (some rI)->W.grownBy wr none from fun wr h=>(Zb Hg3.out Hg4.out).andThen h (fun j hj=>by cases hj;exact .inl HrI.out.2))
 have HB:=hid (show ∀ wr,w4.grownBy wr (some rI)->wr.heap[w1.heap.size]?=some (.cells #[.int .i64 pf,.int .i64 pb,.int .i64 pi] 41 (0,0)) from fun wr h=>by
  have h1:=Ze Hb3.out
  exact (h.block _ (Lm h1 Hg4.out.size) (by intro e;injection e with e;have:=HrI.out.1;omega)).trans ((Hg4.out.block _ h1 (by simp)).trans Hb3.out))
 have HV:=hid (Zyi HE.out.ok Hok.out Hnd.out);clear hrI hcm ht;go_loopw [5] (fun s5 wr=>∃ S A n c,s5=.slice A n c/\Hid (FcI p w4 s.heap a.vars (pf,pb,pi) rI ad.2 wr S (.slice A n c) n)) (fun _ wr=>a.vars.length-Zxt wr rI)
 case atStart=>exact⟨[],none,0,0,rfl,hid ⟨Hr4.out,rfl,World.ownsRow_nil _ _ _ _,Lb _ _⟩⟩
 case round=>
  obtain⟨S,A,n,c,rfl,hF⟩:=hrel;go_wp2_with (at_next;refine Zxj _ rfl _ rfl rI ad.2 a.vars S rfl hF.out.it ?_ ?_)
  ·intro hdone;have hpm:=Zyo a.vars (Zwr p s.heap) hdone;have hlen:=Zxx (p:=p) (h:=s.heap) (m:=a.vars) (S:=S);have hfw:=hF.out.it.fewer;have hvl:=HV.out.2;have hrow:=hF.out.row;rw[hF.out.len] at hrow
   have hsrt:=Zxh (pf,pb,pi) (L:=Zwu p s.heap a.vars S) (fun x hx=>by
    obtain⟨q,hq,e⟩:=Zyr hx
    have:=(HV.out.1 q hq).1
    omega) (by omega) wr hrow
   rw[<-hF.out.len] at hsrt;have Hpm:=hid hpm;have Hrow:=hid hrow;clear hpm hdone hlen hfw hvl hrow;go_wp2_with (go_at_call 85;refine hsrt.mono ?_;rintro e w6 ⟨rfl,L',hp',hs',ho',hg'⟩;have HL:=hid (And.intro hp' (And.intro hs' (And.intro ho' hg')));clear hp' hs' ho' hg');go_ret;obtain⟨hp',hs',ho',hg'⟩:=HL.out;refine⟨L',_,rfl,Zyc Hnd.out (hp'.trans Hpm.out) hs',Zye ho' (by have:=Hg3.out.size;have:=Hg4.out.size;omega),(HW.out wr hF.out.gr).andThen hg' (fun j hj=>.inl ?_)⟩;have h1:=(hF.out.row.lt j hj).1;have:=Hg3.out.size;have:=Hg4.out.size;omega
  ·intro i k x w5 hk hiS hr5 hg5 hs5 hen;simp only[encZ,Yf] at hen ⊢;have hgW:=HW.out w5 ((show w4.grownBy w5 (some rI) from hF.out.gr.andThen hg5 (fun j hj=>.inr (by rw[hj]))));have hg45:w4.grownBy w5 (some rI):=hF.out.gr.andThen hg5 (fun j hj=>.inr (by rw[hj]));have hvk:=HV.out.1 (k,x) (Ll hk);have hrow5:w5.ownsRow w4.heap.size 93 5 (.slice A n c) n ((Zwu p s.heap a.vars S).flatMap (Zwq (pf,pb,pi))):=by
    refine (Chg.grown (Q:=fun m=>m=rI) hg5 (fun r e=>by injection e with e;exact e.symm)).owns hF.out.row fun m e q=>?_
    have h1:=(hF.out.row.lt m e).1;have:=HrI.out.1;have:=Hg4.out.size;have h2:=Ze (show w4.heap[rI]?=_ from (Hr4.out.it).choose_spec.2);omega
   obtain⟨w6,hw6⟩:∃ w6,w6=w5.alloc (.cells #[.int .u8 x.kind,.int .i64 x.obj,.int .i64 x.n] 72):=⟨_,rfl⟩
   have hg56:w5.grownBy w6 none:=by rw[hw6];exact Lc _ _ _
   have hb6:w6.heap[w5.heap.size]?=some (.cells #[.int .u8 x.kind,.int .i64 x.obj,.int .i64 x.n] 72 (0,0)):=by rw[hw6];exact La _ _
   have hg46:w4.grownBy w6 (some rI):=hg45.andThen hg56 (fun j hj=>by cases hj);have hr6:=hr5.keep (w':=w6) (hg56.block _ (Ze hr5.map) (by simp)) (hg56.block _ (Ze hr5.it.choose_spec.2) (by simp));have HM:=hid (show ∀ W',w6.grownBy W' none->Ma wB ms vp W' g s from fun W' hg=>H.out.grow (HW.out W' (hg46.andThen hg (fun j hj=>by cases hj))))
   have HBx:=hid (show ∀ W',w6.grownBy W' none->W'.cell? ⟨w1.heap.size,0,none⟩=some (.int .i64 pf)/\W'.cell? ⟨w1.heap.size,1,none⟩=some (.int .i64 pb)/\W'.cell? ⟨w1.heap.size,2,none⟩=some (.int .i64 pi) from fun W' hg=>by
    have h:=HB.out W' (hg46.andThen hg (fun j hj=>by cases hj))
    exact⟨(Za h).1 0,(Za h).1 1,(Za h).1 2⟩)
   have HXc:=hid (show ∀ W',w6.grownBy W' none->W'.cell? ⟨g.m,1,none⟩=some (.pointer (some ⟨g.h.h,0,none⟩))/\W'.cell? ⟨w5.heap.size,0,none⟩=some (.int .u8 x.kind)/\W'.cell? ⟨w5.heap.size,1,none⟩=some (.int .i64 x.obj)/\W'.cell? ⟨w5.heap.size,2,none⟩=some (.int .i64 x.n) from fun W' hg=>
                      ⟨(HM.out W' hg).cell 1,Zp hg ((Za hb6).1 0),Zp hg ((Za hb6).1 1),Zp hg ((Za hb6).1 2)⟩)
   obtain⟨bb,hbb⟩:∃ bb,bb=decide (Yi s.heap x=0):=⟨_,rfl⟩
   have Hth:=hid (show ∀ W',w6.grownBy W' none->Calls Tryz.prog 83 #[.pointer (some ⟨g.h.h,0,none⟩),.agg #[.int .u8 x.kind,.int .i64 x.obj,.int .i64 x.n]] W' fun e w'=>(∃ n:Nat,e=.returned (.tuple #[.int .i64 n,.bool bb])/\(Yi s.heap x=0->n=Zwv s.heap x))/\W'.grownBy w' none from fun W' hg=>by
    rw[hbb]
    exact Zyb (HM.out W' hg).heap HK.out.heap.size (fun o ho=>by
     have h1:=HK.out.heap.fld o ho
     have h2:=(HE.out.ok.lens (Lf p.length) (SLe.refl _)).2.2.2
     omega) x)
   have Hbb:=hid hbb;clear hbb;have Hin:=hid (And.intro hk (And.intro hiS hvk.2));have HF:=hid (And.intro hr6 (And.intro hg46 hF.out.len));have Hrow6:=hid ((Chg.grown (Q:=fun _=>False) hg56 (fun r e=>by cases e)).owns hrow5 (fun _ _ e=>e));have hfew:=hr5.fewer;have hgl:=Zxx (p:=p) (h:=s.heap) (m:=a.vars) (S:=S);have hlen5:n<=5000:=by
    have:=HV.out.2;have:=hF.out.it.fewer;have:=hF.out.len;omega
   have hg:=Lb w6 none;clear hgW hg45 hvk hrow5 hg56 hb6 hg46 hr6 hiS hr5 hg5 hs5 hgl hfew;go_upto_region 8 with (fail)
   rw[<-hw6];clear hw6 hen;go_region_held3 (fun W'=>W'.cell? ⟨g.m,1,none⟩=some (.pointer (some ⟨g.h.h,0,none⟩))/\W'.cell? ⟨w5.heap.size,0,none⟩=some (.int .u8 x.kind)/\W'.cell? ⟨w5.heap.size,1,none⟩=some (.int .i64 x.obj)/\W'.cell? ⟨w5.heap.size,2,none⟩=some (.int .i64 x.n)) (first|exact HXc.out _ hg|exact HXc.out _ (Zf hg)) ((go_simp;go_at_call 83;first|(refine (Hth.out _ (Zf hg)).mono ?_;rintro e w7 ⟨⟨nn,rfl,hnn⟩,hg7⟩;have hg:=Zb (Zf hg) hg7;clear hg7)|(refine (Hth.out _ hg).mono ?_;rintro e w7 ⟨⟨nn,rfl,hnn⟩,hg7⟩;have hg:=Zb hg hg7;clear hg7)));have Hnn:=hid hnn;clear hnn
   by_cases hk2:x.kind=2
   ·have hxn:x.n<p.length:=by
     rcases Hin.out.2.2 with e|⟨e,_⟩|e
     ·rw[e] at hk2;simp[nilV] at hk2
     ·omega
     ·exact e.2.2
    obtain⟨d0,d1,d2,d3⟩:=HXc.out _ hg;have hkk:((x.kind:Int) == 2)=true:=by rw[hk2];rfl
    have d4:w7.cell? ⟨g.m,0,none⟩=some (.pointer (some ⟨ms,0,none⟩)):=(HM.out _ hg).cell 0;have Hfo:=hid (fun n=>Zxr (HE.out.mapAt (HM.out _ (Zg hg n))) x.n hxn);obtain⟨oo,hoo⟩:∃ oo:Nat,oo=(Zh p p.length).of.length+x.n:=⟨_,rfl⟩
    rw[show (((Zh p p.length).of.length:Int)+(x.n:Int))=(oo:Int) by omega] at Hfo;have Hoo:=hid hoo;have Hk2:=hid hk2;have Hgg:=hid hg;clear hxn hoo hk2 hg;go_upto_region 10 with (fail)
    go_quiet ((go_at_call 84;exact (Hfo.out _).mono fun e w' h=>⟨h.1,_,h.2.symm⟩));obtain⟨wz,hwz⟩:∃ w,w=w7.drewN nq:=⟨_,rfl⟩
    rw[<-hwz];have hgz:w6.grownBy wz none:=hwz▸Zg Hgg.out nq;clear hwz d0 d1 d2 d3 d4;have HrZ:=hid ((Chg.grown (Q:=fun _=>False) hgz (fun r e=>by cases e)).owns Hrow6.out (fun _ _ e=>e));have HszZ:=hid (show w4.heap.size<=wz.heap.size from by have:=HF.out.2.1.size;have:=hgz.size;omega);have Hgz:=hid hgz;have Hfa:=hid (show Zws p s.heap x=some oo from by unfold Zws;rw[if_pos Hk2.out,Hoo.out]);obtain⟨z0,z1,z2⟩:=HBx.out wz hgz;clear hgz;go_wp2_with (refine Zck rfl _ _ 84 rfl w4.heap.size 93 _ 5 40 Tryz.underlying84 Zys rfl (by decide) (.slice A n c) _ n rfl (HrZ.out.alloc _) wz.heap.size (Zwq (pf,pb,pi) (k,oo)) rfl (by simp[Zwq,Value.oneCell']) rfl _ _ (La wz _) rfl (by unfold maxLen;omega) (by omega) (by have:=HszZ.out;simp;omega) ?_;intro G cap w9 ho9 hg9 hor9;have Ho9:=hid ho9;have Hg9:=hid hg9;clear ho9 hg9 hor9);go_roundw
    case rel=>exact⟨S++[i],some ⟨G,0,none⟩,n+1,cap,rfl,hid (Zxa Hin.out.1 HF.out.1 HF.out.2.1 HF.out.2.2 Hfa.out Hrow6.out (Zd Hgz.out _) Hg9.out Ho9.out)⟩
    case measure=>
     have h1:=Zxa Hin.out.1 HF.out.1 HF.out.2.1 HF.out.2.2 Hfa.out Hrow6.out (Zd Hgz.out _) Hg9.out Ho9.out;rw[h1.it.seen,hF.out.it.seen,List.length_append,List.length_singleton];have h2:=h1.it.fewer;rw[List.length_append,List.length_singleton] at h2;omega
   ·have hk2':((x.kind:Int) == 2)=false:=by rw[beq_eq_false_iff_ne];omega
    obtain⟨d0,d1,d2,d3⟩:=HXc.out _ hg;have Hk2:=hid hk2;clear hk2
    cases bb with
    |true=>
     have hs0:Yi s.heap x=0:=of_decide_eq_true Hbb.out.symm;obtain⟨oo,hoo⟩:∃ oo:Nat,oo=nn:=⟨_,rfl⟩
     have Hoo:=hid (show oo=Zwv s.heap x from hoo.trans (Hnn.out hs0));have Hs0:=hid hs0;clear hs0;subst hoo;obtain⟨wz,hwz⟩:∃ w,w=w7:=⟨_,rfl⟩
     subst hwz;have hgz:=hg;have HrZ:=hid ((Chg.grown (Q:=fun _=>False) hgz (fun r e=>by cases e)).owns Hrow6.out (fun _ _ e=>e));have HszZ:=hid (show w4.heap.size<=wz.heap.size from by have:=HF.out.2.1.size;have:=hgz.size;omega);have Hgz:=hid hgz;have Hfa:=hid (show Zws p s.heap x=some oo from by unfold Zws;rw[if_neg Hk2.out,if_pos Hs0.out,Hoo.out]);obtain⟨z0,z1,z2⟩:=HBx.out wz hgz;clear hgz;go_wp2_with (refine Zck rfl _ _ 84 rfl w4.heap.size 93 _ 5 40 Tryz.underlying84 Zys rfl (by decide) (.slice A n c) _ n rfl (HrZ.out.alloc _) wz.heap.size (Zwq (pf,pb,pi) (k,oo)) rfl (by simp[Zwq,Value.oneCell']) rfl _ _ (La wz _) rfl (by unfold maxLen;omega) (by omega) (by have:=HszZ.out;simp;omega) ?_;intro G cap w9 ho9 hg9 hor9;have Ho9:=hid ho9;have Hg9:=hid hg9;clear ho9 hg9 hor9);go_roundw
     case rel=>exact⟨S++[i],some ⟨G,0,none⟩,n+1,cap,rfl,hid (Zxa Hin.out.1 HF.out.1 HF.out.2.1 HF.out.2.2 Hfa.out Hrow6.out (Zd Hgz.out _) Hg9.out Ho9.out)⟩
     case measure=>
      have h1:=Zxa Hin.out.1 HF.out.1 HF.out.2.1 HF.out.2.2 Hfa.out Hrow6.out (Zd Hgz.out _) Hg9.out Ho9.out;rw[h1.it.seen,hF.out.it.seen,List.length_append,List.length_singleton];have h2:=h1.it.fewer;rw[List.length_append,List.length_singleton] at h2;omega
    |false=>
     have Hfa:=hid (show Zws p s.heap x=none from by unfold Zws;rw[if_neg Hk2.out,if_neg (of_decide_eq_false Hbb.out.symm)]);have Hgz:=hid hg;clear hg;go_wp2_with fail;go_roundw
     case rel=>exact⟨S++[i],A,n,c,rfl,hid (Zyh Hin.out.1 HF.out.1 HF.out.2.1 HF.out.2.2 Hfa.out Hrow6.out Hgz.out)⟩
     case measure=>
      have h1:=Zyh (q:=(pf,pb,pi)) Hin.out.1 HF.out.1 HF.out.2.1 HF.out.2.2 Hfa.out Hrow6.out Hgz.out;rw[h1.it.seen,hF.out.it.seen,List.length_append,List.length_singleton];have h2:=h1.it.fewer;rw[List.length_append,List.length_singleton] at h2;omega
end
section
open Go.RowKit Go.Shelf
variable {p:GProg} {w0:World} {B1 B2:Bs} {n1 n2:Nat} {v1 v2:Value} {W W':World} {g1 g2 g:SAd} {s1 s2 s:GM} {wB:Bs} {lo ms:Nat} {vp:Value}
structure PairI (w0:World) (B1 B2:Bs) (n1 n2:Nat) (v1 v2:Value) (W:World) (g1 g2:SAd) (s1 s2:GM):Prop where
 m1:Ma B1 n1 v1 W g1 s1
 m2:Ma B2 n2 v2 W g2 s2
 base:Chg (fun n=>w0.heap.size<=n) w0 W
 dis:∀ n,SQ g1 n->¬ SQ g2 n
 dg1:¬ SQ g2 g1.dg
 dg2:¬ SQ g1 g2.dg
 o1:∀ n,SQ g1 n->w0.heap.size<=n/\(B2.heap.size<=n\/n<B2.lo0)
 o2:∀ n,SQ g2 n->w0.heap.size<=n/\B1.heap.size<=n
theorem PairI.grow (h:PairI w0 B1 B2 n1 n2 v1 v2 W g1 g2 s1 s2) (hg:W.grownBy W' none):PairI w0 B1 B2 n1 n2 v1 v2 W' g1 g2 s1 s2:=
 { h with m1:=h.m1.grow hg,m2:=h.m2.grow hg,base:=h.base.trans (Chg.grown (Q:=fun _=>False) hg (fun r e=>by cases e)) (fun _ _ e=>e.elim) }
theorem PairI.start {w1 w2 w3:World} (hg0:w0.grownBy w1 none) (h1:Ma B1 n1 v1 w2 g1 s1) (a1:w1.heap.size<=B1.h0) (a2:w1.heap.size<=B1.heap.size) (hg1:w1.grownBy w2 none) (h2:Ma B2 n2 v2 w3 g2 s2) (b0:B2.lo0=w2.heap.size) (b1:w2.heap.size<=B2.h0) (b2:w2.heap.size<=B2.heap.size) (hg2:w2.grownBy w3 none):PairI w0 B1 B2 n1 n2 v1 v2 w3 g1 g2 s1 s2 where
 m1:=h1.grow hg2
 m2:=h2
 base:=Chg.grown (Zb hg0 (Zb hg1 hg2)) (fun r e=>by cases e)
 dis:=fun n q1 q2=>by have:=h1.lt q1;have:=(h2.ty q2).1;omega
 dg1:=fun q=>by have:=Ze h1.doing;have:=(h2.ty q).1;omega
 dg2:=fun q=>by have:=h1.lt q;have:=h2.db;omega
 o1:=fun n q=>by have:=h1.lt q;have:=(h1.ty q).1;have:=hg0.size;omega
 o2:=fun n q=>by have:=(h2.ty q).1;have:=hg0.size;have:=hg1.size;have:=h1.chg.size;omega
def atP (s:GM):GPt:=if s.stop=0 then s.top.pt else (0,0,0)
theorem Zxq (h:Ma wB ms vp W g s) (K:GMOk p s):Calls Tryz.prog 32 #[.pointer (some ⟨g.m,0,none⟩)] W fun e w'=>e=.returned (.tuple #[.agg #[.int .i64 (atP s).1,.int .i64 (atP s).2.1,.int .i64 (atP s).2.2],.bool (decide (s.stop=0))])/\W.grownBy w' none:=by
 unfold atP
 by_cases h0:s.stop=0
 ·obtain⟨l,a,ha⟩:=Zfc (s:=s) fun e=>by have:=K.done.1 e;omega
  rw[if_pos h0,decide_eq_true h0,X1 ha];exact Zql h ha h0
 ·rw[if_neg h0,decide_eq_false h0];exact Zvb h h0
def IsF (p:GProg) (s:GM) (L:List (Int×Nat)):Prop:=if s.stop=0 then Yau p s.heap s.top.vars L else L=[]
theorem Zwx (E:StE wB lo ms vp p) (h:Ma wB ms vp W g s) (K:GMOk p s) (N:KeysNd s):Calls Tryz.prog 41 #[.pointer (some ⟨g.m,0,none⟩)] W fun e w'=>∃ L v,e=.returned v/\IsF p s L/\w'.ownsRow W.heap.size 93 5 v L.length (L.flatMap (Zwq (atP s)))/\W.grownBy w' none:=by
 unfold IsF atP
 by_cases h0:s.stop=0
 ·obtain⟨l,a,ha⟩:=Zfc (s:=s) fun e=>by have:=K.done.1 e;omega
  rw[if_pos h0,X1 ha];refine (Zyd E h K N ha h0).mono ?_;rintro e w' ⟨L,v,rfl,hL,ho,hg⟩;exact⟨L,v,rfl,by rw[if_pos h0];exact hL,ho,hg⟩
 ·refine (Zyl h h0).mono ?_;rintro e w' ⟨rfl,hg⟩;exact⟨[],_,rfl,by rw[if_neg h0],World.ownsRow_nil _ _ _ _,hg⟩
end

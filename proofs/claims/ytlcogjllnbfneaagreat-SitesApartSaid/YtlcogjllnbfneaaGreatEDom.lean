/- The contract of dom. Conditions in it. -/
import Derived.Test.YtlcogjllnbfneaaGreatEGrb
import Derived.Test.YtlcogjllnbfneaaGreatEGrc
set_option maxHeartbeats 4000000
set_option maxRecDepth 100000
set_option linter.all false
namespace Go.Proofs.YtlcogjllnbfneaaGreat
open Lib(hid)
section
open Go.RowKit
def Zpu (g:Gph) (root:Nat) (w:World) (e:Ending) (w':World):Prop:=∃ (O:Nat) (order:List Nat) (o:Out),e=.returned (.slice (some ⟨O,0,none⟩) g.length g.length)/\w.heap.size<=O/\
 w'.heap[O]?=some (.cells ((Zaf o).set root (.int .i64 (-1))).toArray 3 (0,0))/\RPO g root order/\TreeOk g root order o/\(∀ x∈order,x<g.length)/\Below w.heap.size w w'
def Zap (n:Nat) (order:List Nat) (k:Nat):List Nat:=(List.range n).map fun b=>if b∈order.take k then plc order b else 0
theorem Zrf (n:Nat) (order:List Nat):Zap n order 0=List.replicate n 0:=by
 apply List.ext_getElem<;>simp[Zap]
theorem Zts (n:Nat) (order:List Nat) (k:Nat) (h:¬ k<order.length):Zap n order k=atL n order:=by
 rw[Zap,atL,List.take_of_length_le (by omega)]
theorem Zdj (n:Nat) (order:List Nat) (k:Nat):(Zap n order k).length=n:=by simp[Zap]
theorem Ztt {n k b:Nat} {order:List Nat} (hn:order.Nodup) (hb:order[k]?=some b) (hbn:b<n):(Zap n order k).set b k=Zap n order (k+1):=by
 obtain⟨hk,e⟩:=Le hb;have hp:plc order b=k:=by
  rw[<-e];exact hn.idxOf_getElem k hk
 apply List.ext_getElem?
 intro i
 by_cases e1:b=i
 ·subst e1;rw[List.getElem?_set_self (by rw[Zdj];exact hbn)];have:b∈order.take (k+1):=by rw[List.take_add_one,hb];simp
  simp[Zap,List.getElem?_range hbn,this,hp]
 ·rw[List.getElem?_set_ne e1];simp only[Zap,List.getElem?_map]
  cases hx:(List.range n)[i]? with
  |none=>rfl
  |some x=>
   obtain⟨hi,e3⟩:=Le hx;simp at e3;subst e3;have:(i∈order.take (k+1))↔(i∈order.take k):=by
    rw[List.take_add_one,hb];simp only[Option.toList_some,List.mem_append,List.mem_singleton];exact⟨fun h=>h.resolve_right (fun e4=>e1 e4.symm),.inl⟩
   simp only[Option.map_some,this]
theorem Zma:∀ W,(sizeOf 3).run Tryz.prog W=.ok 1 W:=fun _=>by kernel_rfl
theorem Zvz (b k cap:Nat) (hk:k+1<=cap) (hc:cap<=9223372036854775807):∃ A1,(∀ W,(Instr.slice 84 (.slice (some ⟨b,0,none⟩) (k+1) cap) (some (.int .i64 1)) none none).run Tryz.prog W=.ok (.slice A1 k (cap-1)) W)/\(0<k->A1=some ⟨b,1,none⟩):=by
 refine⟨if cap=1 then some ⟨b,0,none⟩ else some ⟨b,1,none⟩,fun W=>?_,fun h=>by rw[if_neg (by omega)]⟩;have h1:(1:Int)<=(k:Int)+1:=by omega
 by_cases hk0:cap=1
 ·simp[Instr.slice,Instr.sliceBounds,Instr.sliceBound,run_underlying Tryz.underlying84,Result.andThen,asIntOf,h1,Zma,Addr.add,hk0]
 ·simp[Instr.slice,Instr.sliceBounds,Instr.sliceBound,run_underlying Tryz.underlying84,Result.andThen,asIntOf,h1,Zma,Addr.add,hk0]
structure TM (wZ wr:World) (O:Nat) (o:Out):Prop where
 gr:wZ.grownBy wr (some O)
 os:wr.heap[O]?=some (.cells (Zaf o).toArray 3 (0,0))
theorem TM.cell {wZ wr:World} {O:Nat} {o:Out} (h:TM wZ wr O o) {b k:Nat} {v:Value} (hne:b≠O) (hc:wZ.cell? ⟨b,k,none⟩=some v):wr.cell? ⟨b,k,none⟩=some v:=
 (Lj (h.gr.block b (World.block_lt_of_cell? wZ ⟨b,k,none⟩ hc) (by simp;exact hne))).trans hc
theorem TM.out {wZ wr:World} {O:Nat} {o:Out} (h:TM wZ wr O o) {b:Nat} (hb:b<o.length):wr.cell? ⟨O,b,none⟩=some (.int .i64 (oi (ptr o b)))/\wr.frozen? ⟨O,b,none⟩=false:=by
 refine⟨?_,(Za h.os).2 b⟩;rw[(Za h.os).1];simp[Zaf,ptr,List.getD,hb]
theorem TM.drewN {wZ wr:World} {O:Nat} {o:Out} (h:TM wZ wr O o) (q:Nat):TM wZ (wr.drewN q) O o:=⟨Zg h.gr q,h.os⟩
theorem TM.put {wZ wr:World} {O b d:Nat} {o:Out} (h:TM wZ wr O o):TM wZ (wr.setCell ⟨O,b,none⟩ (.int .i64 d)) O (o.set b (some d)):=by
 refine⟨Zn h.gr rfl _,?_⟩;rw[show (Zaf (o.set b (some d))).toArray=((Zaf o).toArray).setIfInBounds b (.int .i64 d) by rw[Zaf,List.map_set,Lg];rfl];exact Vr h.os b _
def LoopS (g:Gph) (root:Nat) (order:List Nat) (o:Out) (t:Bool) (m:Nat):Prop:=(t=true->Head g root order o/\Phi order o+1<=m)/\(t=false->TreeOk g root order o)
def PD (o:Out) (l:List Nat) (d:Int):Prop:=(d= -2/\∀ p∈l,ptr o p=none)\/∃ dn:Nat,d=dn/\(∃ q,ptr o dn=some q)/\Zid o l dn
theorem PD.skip {o:Out} {l:List Nat} {d:Int} {p:Nat} (h:PD o l d) (hp:ptr o p=none):PD o (l++[p]) d:=by
 rcases h with ⟨e,h⟩|⟨dn,e,hs,h⟩
 ·refine .inl ⟨e,fun x hx=>?_⟩
  rcases List.mem_append.1 hx with hx|hx
  ·exact h x hx
  ·simp at hx;subst hx;exact hp
 ·refine .inr ⟨dn,e,hs,?_,fun x hx q hq=>?_,fun x hx=>?_⟩
  ·obtain⟨x,h1,h2⟩:=h.some;exact⟨x,by simp[h1],h2⟩
  ·rcases List.mem_append.1 hx with hx|hx
   ·exact h.all x hx q hq
   ·simp at hx;subst hx;rw[hp] at hq;cases hq
  ·exact h.most x fun y hy q hq=>hx y (by simp[hy]) q hq
theorem PD.first {o:Out} {l:List Nat} {p q:Nat} (h:∀ x∈l,ptr o x=none) (hp:ptr o p=some q):PD o (l++[p]) p:=by
 refine .inr ⟨p,rfl,⟨q,hp⟩,⟨p,by simp,q,hp⟩,fun x hx r hr=>?_,fun x hx=>hx p (by simp) q hp⟩
 rcases List.mem_append.1 hx with hx|hx
 ·rw[h x hx] at hr;cases hr
 ·simp at hx;subst hx;exact .refl _
theorem PD.meet {o:Out} {l:List Nat} {dn p q d:Nat} (h:Zid o l dn) (hp:ptr o p=some q) (h1:Anc o dn d) (h2:Anc o p d) (h3:∀ x,Anc o dn x->Anc o p x->Anc o d x) (hs:∃ r,ptr o d=some r):PD o (l++[p]) d:=by
 refine .inr ⟨d,rfl,hs,⟨p,by simp,q,hp⟩,fun x hx r hr=>?_,fun x hx=>h3 x (h.most x fun y hy r hr=>hx y (by simp[hy]) r hr) (hx p (by simp) q hp)⟩
 rcases List.mem_append.1 hx with hx|hx
 ·exact (h.all x hx r hr).trans h1
 ·simp at hx;subst hx;exact h2
theorem Zwb {o:Out} {b d:Nat} (hb:b<o.length) (h:ptr o b=some d):o.set b (some d)=o:=by
 apply List.ext_getElem?
 intro i
 by_cases e:b=i
 ·subst e;rw[List.getElem?_set_self hb,Zqs h]
 ·rw[List.getElem?_set_ne e]
theorem Zwg (v:Value) (g:Gph) (root:Nat) (B:Nat) (w:World) (hB:B<=w.heap.size) (h:GraphAt w B v g) (hok:GOk g) (hroot:root<g.length):
  Calls Tryz.prog 88 #[v,.int .i64 root] w fun e w'=>Zpu g root w e w':=by
 have hlen:=hok.len;have hmk:=Zgs g.length hlen;have hrep:=Zpe (-2) w.heap.size g.length (w.alloc (.cells #[.int .i64 (-2)] 3)) (by omega) hlen (by simp);simp only[World.size_alloc] at hrep;have hgr:=h;obtain⟨A,c,rfl,hm,hlc,hcm,hA⟩:=h.open_;have Hg:=hid hgr;clear h hA hgr;go_enter Tryz.func88,Tryz.ntmps88;go_wp2_with (go_at_call 127;refine hrep.mono ?_;rintro e w1 ⟨rfl,hO,hb1⟩);have hsz1:=hb1.size;have hsz1':=Ze hO;simp only[World.size_alloc] at hsz1;have hb01:Below w.heap.size w w1:=((Below.refl w.heap.size w).alloc (Lf _) _).trans (hb1.mono (by omega));obtain⟨wA,hwA⟩:∃ wA:World,wA=w1.alloc (.cells #[.slice (some ⟨w.heap.size+1,0,none⟩) g.length g.length] 84):=⟨_,rfl⟩
 have hbA:Below w.heap.size w wA:=by rw[hwA];exact hb01.alloc (by omega) _
 have hOA:wA.heap[w.heap.size+1]?=some (.cells (List.replicate g.length (.int .i64 (-2))).toArray 3 (0,0)):=by rw[hwA];exact Zc hO _
 have hobA:wA.heap[w1.heap.size]?=some (.cells #[.slice (some ⟨w.heap.size+1,0,none⟩) g.length g.length] 84 (0,0)):=by rw[hwA];exact La w1 _
 have hszA:wA.heap.size=w1.heap.size+1:=by rw[hwA];simp
 have hpost:=Zvx (.slice A g.length c) g root B wA (by omega) (Hg.out.below rowR.keeps hbA hB) hok hroot;have hbk:=hb1;clear hrep hb1 hb01;rw[<-hwA];clear hwA hO;refine hpost.mono ?_;rintro e w2 ⟨v2,order,rfl,hPO,hor,hlt,hb2⟩;have R:=hPO.rpo;obtain⟨rest,hrest⟩:=R.head;have hol:1<=order.length:=by rw[hrest];simp
 have hon:order.length<=g.length:=by
  have:=R.nodup.length_le_of_subset (l₂:=List.range g.length) (fun x hx=>List.mem_range.2 (hlt x hx));simpa using this
 obtain⟨A2,c2,rfl,hc1,hc2,hc3,hc4⟩:=Z5 hor
 cases A2 with
 |none=>have:=(hc3 rfl).1;omega
 |some a2=>
 obtain⟨e2,hb3,hb4⟩:=hc4 _ rfl;obtain⟨rb,hrb⟩:∃ rb,rb=a2.block:=⟨_,rfl⟩
 rw[<-hrb] at hb3 hb4 e2;subst e2;have hsz2:=hb2.size;have hOB:w2.cell? ⟨w1.heap.size,0,none⟩=some (.slice (some ⟨w.heap.size+1,0,none⟩) g.length g.length):=(Za ((hb2.block _ (by omega)).trans hobA)).1 0;have HPO:=hid hPO;have HR:=hid R;have Hor:=hid hor;have HOA:=hid ((hb2.block _ (by omega)).trans hOA);have HobA:=hid ((hb2.block _ (by omega)).trans hobA);clear hPO R hor hrest hrb hpost hOA hobA hc3 hc4;go_upto_region 6 with (fail)
 obtain⟨wB,hwB⟩:∃ wB:World,wB=(w2.alloc (.cells (Array.replicate g.length (.int .i64 0)) 3)).alloc (.cells #[.slice (some ⟨w2.heap.size,0,none⟩) g.length g.length] 84):=⟨_,rfl⟩
 have hbB:Below w2.heap.size w2 wB:=by rw[hwB];exact ((Below.refl w2.heap.size w2).alloc (Lf _) _).alloc (by simp) _
 have hTB:wB.heap[w2.heap.size]?=some (.cells ((Zap g.length order 0).map Z4).toArray 3 (0,0)):=by
  rw[hwB,Zrf,List.map_replicate,List.toArray_replicate];exact Zc (La w2 _) _
 have htbB:wB.heap[w2.heap.size+1]?=some (.cells #[.slice (some ⟨w2.heap.size,0,none⟩) g.length g.length] 84 (0,0)):=by
  have:=La (w2.alloc (.cells (Array.replicate g.length (.int .i64 0)) 3)) (.cells #[.slice (some ⟨w2.heap.size,0,none⟩) g.length g.length] 84);rw[hwB];simpa using this
 have hszB:wB.heap.size=w2.heap.size+2:=by rw[hwB];simp
 rw[<-hwB];have HorB:=hid (Hor.out.kept (Zj hbB) (by simp[Value.ownBlock]));have HtbB:=hid htbB;have HbB:=hid hbB;clear hwB hmk hOB htbB;go_wp2_with fail;go_loopw [34] (fun s8 wr=>∃ k:Nat,k<=order.length/\s8=.int .i64 k/\Hid (wB.grownBy wr (some w2.heap.size))/\Hid (wr.heap[w2.heap.size]?=some (.cells ((Zap g.length order k).map Z4).toArray 3 (0,0)))) (fun s8 _=>order.length-(intOf s8).toNat)
 case atStart=>exact⟨0,Ln _,rfl,Lb _ _,hTB⟩
 case round=>
  obtain⟨k,hkl,rfl,hg,hT⟩:=hrel;clear hTB;have htb:=(hg.out.block _ (by omega) (by simp)).trans HtbB.out;have ht1:wr.cell? ⟨w2.heap.size+1,0,none⟩=some (.slice (some ⟨w2.heap.size,0,none⟩) g.length g.length):=(Za htb).1 0;have hszr:=hg.out.size
  by_cases hl:k<order.length
  ·have hx:order[k]?=some order[k]:=Ld hl;generalize order[k]=b at hx;have hbn:=hlt b (Ll hx);obtain⟨rb',e3,_,_,hc⟩:=Jc HorB.out hx;injection e3 with e3
   injection e3 with e3 _
   subst e3;have hc':wr.cell? ⟨rb,k,none⟩=some (.int .i64 b):=(Lj (hg.out.block _ (by simp;omega) (by simp;omega))).trans hc;have hT2:∃ u,wr.cell? ⟨w2.heap.size,b,none⟩=some u:=by
    rw[(Za hT.out).1];have:b<(Zap g.length order k).length:=by rw[Zdj];exact hbn
    exact⟨_,by simp[this];rfl⟩
   obtain⟨u,hu⟩:=hT2;have hf:=(Za hT.out).2 b;have Hx:=hid hx;clear hx hc htb;go_wp2_with fail;go_roundw
   case rel=>
    refine⟨k+1,by omega,by go_num,Zn hg.out rfl _,?_⟩;rw[<-Ztt HR.out.nodup Hx.out hbn,show (((Zap g.length order k).set b k).map Z4).toArray=(((Zap g.length order k).map Z4).toArray).setIfInBounds b (.int .i64 k) by simp[List.map_set,Z4]];exact Vr hT.out b _
   case measure=>simp[intOf];omega
  ·have hTa:=hT.out;rw[Zts _ _ _ hl] at hTa;have hBr:Below w.heap.size w wr:=by
    have h1:Below w2.heap.size w2 wr:=Z1 HbB.out hg.out (by omega) (fun r e=>by cases e;exact Lf _);exact hbA.trans ((hb2.mono (by omega)).trans (h1.mono (by omega)))
   have hback:=Zkz (.slice A g.length c) g B wr (by omega) (Hg.out.below rowR.keeps hBr hB) hok;have HTa:=hid hTa;have hO2:wr.heap[w.heap.size+1]?=some (.cells (List.replicate g.length (.int .i64 (-2))).toArray 3 (0,0)):=(hg.out.block _ (by omega) (by simp;omega)).trans ((HbB.out.block _ (by omega)).trans HOA.out);have hob2:wr.heap[w1.heap.size]?=some (.cells #[.slice (some ⟨w.heap.size+1,0,none⟩) g.length g.length] 84 (0,0)):=(hg.out.block _ (by omega) (by simp;omega)).trans ((HbB.out.block _ (by omega)).trans HobA.out);have hor2:=HorB.out.kept hg.out (.inr (by simp[Value.ownBlock];omega));clear hTa ht1 hT hg
   repeat go_step
   refine hback.mono ?_;rintro e w3 ⟨S,base,rfl,hS,hG,hb5⟩;have hsz5:=hb5.size;have hO3:=(hb5.block _ (by omega)).trans hO2;have hob3:=(hb5.block _ (by omega)).trans hob2;have htb3:=(hb5.block _ (by omega)).trans htb;have hT3:=(hb5.block _ (by omega)).trans HTa.out;have hor3:=hor2.kept (Zj hb5) (by simp[Value.ownBlock]);have c1:w3.cell? ⟨w1.heap.size,0,none⟩=some (.slice (some ⟨w.heap.size+1,0,none⟩) g.length g.length):=(Za hob3).1 0;have c2':w3.cell? ⟨w.heap.size+1,root,none⟩=some (.int .i64 (-2)):=by
    rw[(Za hO3).1];simp[hroot]
   have f2:=(Za hO3).2 root;obtain⟨wZ,hwZ⟩:∃ wZ:World,wZ=w3.setCell ⟨w.heap.size+1,root,none⟩ (.int .i64 root):=⟨_,rfl⟩
   have hgZ:w3.grownBy wZ (some (w.heap.size+1)):=by rw[hwZ];exact Zn (Lb _ _) rfl _
   have hOZ:wZ.heap[w.heap.size+1]?=some (.cells (Zaf ((List.replicate g.length none).set root (some root))).toArray 3 (0,0)):=by
    rw[hwZ,show (Zaf ((List.replicate g.length none).set root (some root))).toArray=((List.replicate g.length (Value.int .i64 (-2))).toArray).setIfInBounds root (.int .i64 root) by rw[Zaf,List.map_set,List.map_replicate,Lg];rfl];exact Vr hO3 root _
   have hobZ:=(hgZ.block _ (by omega) (by simp;omega)).trans hob3;have htbZ:=(hgZ.block _ (by omega) (by simp;omega)).trans htb3;have hTZ:=(hgZ.block _ (by omega) (by simp;omega)).trans hT3;have hGZ:=hG.keptLow hgZ (by omega);have horZ:=hor3.kept hgZ (.inr (by simp[Value.ownBlock];omega));have hBZ:Below w.heap.size w wZ:=(hBr.trans (hb5.mono (by omega))).trans (Z1 (Below.refl _ _) hgZ (by omega) (fun r e=>by cases e;omega));have hszZ:=hgZ.size;have hSl:=hG.lt;obtain⟨At,htl,hAt⟩:=Zvz rb (order.length-1) c2 (by omega) hc2;rw[show order.length-1+1=order.length by omega] at htl;go_upto_region 14 with (fail)
   rw[<-hwZ];have HOZ:=hid hOZ;have HobZ:=hid hobZ;have HtbZ:=hid htbZ;have HTZ:=hid hTZ;have HGZ:=hid hGZ;have HorZ:=hid horZ;have HBZ:=hid hBZ;clear hO3 hob3 htb3 hT3 hor3 c1 c2' f2 hwZ hgZ hOZ hobZ htbZ hTZ hGZ horZ hBZ hG hb5 hback hO2 hob2 htb hor2 hBr hbk hbA hbB hb2;go_wp2_with fail;have hH0:Head g root order ((List.replicate g.length none).set root (some root)):=by
    have hps:∀ x,ptr ((List.replicate g.length (none:Option Nat)).set root (some root)) x=if x=root then some root else none:=fun x=>by
     rw[Qk (by simpa using hroot)]
     congr 1
     unfold ptr;rw[List.getD,List.getElem?_replicate]
     split<;>rfl
    refine⟨⟨by simp,by rw[hps,if_pos rfl],?_,?_,?_⟩,.inl fun b hb=>by rw[hps,if_neg hb]⟩
    all_goals
     intro b p hp hb;rw[hps,if_neg hb] at hp
     cases hp
   go_loopg [12] (Phi order ((List.replicate g.length none).set root (some root))+1) (fun m s12 wr=>∃ t:Bool,s12=.bool t/\Hid (∃ o,TM wZ wr (w.heap.size+1) o/\LoopS g root order o t m))
   case atStart=>exact⟨true,rfl,_,⟨Lb _ _,HOZ.out⟩,fun _=>⟨hH0,Lf _⟩,fun h=>by cases h⟩
   case round=>
    obtain⟨t,rfl,hL⟩:=hrel;clear hH0;obtain⟨old,hTM,hLS⟩:=hL.out
    cases t with
    |false=>
     have hlen':root<old.length:=by rw[(hLS.2 rfl).ok.len];exact hroot
     obtain⟨d1,d2⟩:=hTM.out hlen';have d3:wr.cell? ⟨w1.heap.size,0,none⟩=some (.slice (some ⟨w.heap.size+1,0,none⟩) g.length g.length):=hTM.cell (by omega) ((Za HobZ.out).1 0);have HTM:=hid hTM;have HLS:=hid (hLS.2 rfl);clear hTM hLS hL;go_wp2_with fail;go_ret;refine⟨w.heap.size+1,order,old,rfl,by omega,?_,HR.out,HLS.out,hlt,?_⟩
     ·rw[show ((Zaf old).set root (.int .i64 (-1))).toArray=((Zaf old).toArray).setIfInBounds root (.int .i64 (-1)) by rw[Lg]];exact Vr HTM.out.os root _
     ·exact (Z1 HBZ.out HTM.out.gr (by omega) (fun r e=>by cases e;omega)).setCell (by simp) _
    |true=>
     obtain⟨hH,hPm⟩:=hLS.1 rfl;have HTM:=hid hTM;have HH:=hid hH;have HPm:=hid hPm;clear hTM hLS hL hH hPm;go_wp2_with fail;obtain⟨wc,hwc⟩:∃ wc:World,wc=wr:=⟨_,rfl⟩
     rw[<-hwc] at HTM ⊢;clear hwc;go_loopw [12,55] (fun s12 s55 wi=>∃ (t:Bool) (j:Nat),s12=.bool t/\s55=.int .i64 j/\j<=order.length-1/\Hid (∃ cur,TM wZ wi (w.heap.size+1) cur/\Swp g root order old cur (j+1) t)) (fun _ s55 _=>order.length-1-(intOf s55).toNat)
     case atStart=>exact⟨false,0,rfl,rfl,Ln _,old,HTM.out,Swp.start HR.out HH.out⟩
     case round=>
      obtain⟨t,j,rfl,rfl,hjl,hS⟩:=hrel;clear HTM;obtain⟨cur,hTM,hSw⟩:=hS.out;clear hS
      by_cases hl3:j<order.length-1
      ·have hj1:j+1<order.length:=by omega
       have hx:order[j+1]?=some order[j+1]:=Ld hj1;have hplc:plc order order[j+1]=j+1:=HR.out.nodup.idxOf_getElem (j+1) hj1;generalize order[j+1]=b at hx hplc;have hbm:b∈order:=Ll hx;have hbn:=hlt b hbm;obtain⟨rb',e3,_,_,hc⟩:=Jc HorZ.out hx;injection e3 with e3
       injection e3 with e3 _
       subst e3;have hc':wr.cell? ⟨rb,1+j,none⟩=some (.int .i64 b):=by rw[Nat.add_comm 1 j];exact hTM.cell (by omega) hc
       obtain rfl:=hAt (by omega);have hrow:(Xx g)[b]?=some (K0 g b):=by
        have hbl:b<(Xx g).length:=by rw[Xd];exact hbn
        rw[K0,row,List.getElem?_eq_getElem hbl];rfl
       obtain⟨v4,c4,_,ho4⟩:=HGZ.out.read hrow;obtain⟨A4,d4,rfl,_,_,_,hA4⟩:=Z5 ho4;have c4':=hTM.cell (by omega) c4;have hrl:(K0 g b).length<=65536:=(GOk.back g hlen).rowLen (Ll hrow);have hpl:∀ p∈K0 g b,p<g.length:=fun p hp=>by
        have:=(GOk.back g hlen).lt _ (Ll hrow) p hp
        rwa [Xd] at this
       have HTM:=hid hTM;have HSw:=hid hSw;have Ho4:=hid ho4;have Hpl:=hid hpl;obtain⟨r,hr⟩:∃ r,r=K0 g b:=⟨_,rfl⟩
       rw[<-hr] at c4' Ho4 Hpl hrl;have Hr:=hid hr;have Hplc:=hid hplc;clear hTM hSw hx hc hrow c4 ho4 hA4 hpl hr hplc;go_wp2_with fail;obtain⟨wd,hwd⟩:∃ wd:World,wd=wr:=⟨_,rfl⟩
       rw[<-hwd] at HTM ⊢;clear hwd c4' hc';go_loopw [15,64] (fun s15 s64 wi=>∃ (d:Int) (i:Nat),s15=.int .i64 d/\s64=.int .i64 i/\i<=r.length/\Hid (TM wZ wi (w.heap.size+1) cur/\PD cur (r.take i) d)) (fun _ s64 _=>r.length-(intOf s64).toNat)
       case atStart=>exact⟨-2,0,rfl,rfl,Ln _,HTM.out,.inl ⟨rfl,fun p hp=>by simp at hp⟩⟩
       case round=>
        obtain⟨d,i,rfl,rfl,hil,hP⟩:=hrel;clear HTM;obtain⟨hTM,hPD⟩:=hP.out;have hob:wr.cell? ⟨w1.heap.size,0,none⟩=some (.slice (some ⟨w.heap.size+1,0,none⟩) g.length g.length):=hTM.cell (by omega) ((Za HobZ.out).1 0)
        by_cases hl4:i<r.length
        ·have hx:r[i]?=some r[i]:=Ld hl4;generalize r[i]=p at hx;have hpn:=Hpl.out p (Ll hx);obtain⟨b4,rfl,_,_,hc4⟩:=Jc Ho4.out hx;have hc4':=hTM.cell (by have:=(Ho4.out.lt b4 rfl).1;have:=HGZ.out;obtain⟨_,_,_,h5,_⟩:=this;omega) hc4;have hcl:p<cur.length:=by rw[HSw.out.ok.len];exact hpn
         obtain⟨k1,_⟩:=hTM.out hcl;have htk:r.take (i+1)=r.take i++[p]:=by rw[List.take_add_one,hx];rfl
         cases hpp:ptr cur p with
         |none=>
          rw[hpp] at k1;simp only[oi] at k1;have HN:=hid (show TM wZ wr (w.heap.size+1) cur/\PD cur (r.take (i+1)) d from ⟨hTM,by rw[htk];exact hPD.skip hpp⟩);clear hTM hPD hP hx hc4 hpp htk;go_wp2_with fail;go_roundw
          case rel=>exact⟨d,i+1,rfl,by go_num,by omega,HN.out⟩
          case measure=>simp[intOf];omega
         |some q=>
          rw[hpp] at k1;simp only[oi] at k1;have hq2:((q:Int) == -2)=false:=beq_eq_false_iff_ne.2 (by omega)
          rcases hPD with ⟨rfl,hnone⟩|⟨dn,rfl,hds,hMe⟩
          ·have HN:=hid (show TM wZ wr (w.heap.size+1) cur/\PD cur (r.take (i+1)) p from ⟨hTM,by rw[htk];exact PD.first hnone hpp⟩);clear hTM hP hx hc4 hpp htk hnone;go_wp2_with fail;go_roundw
           case rel=>exact⟨p,i+1,rfl,by go_num,by omega,HN.out⟩
           case measure=>simp[intOf];omega
          ·have hd2:((dn:Int) == -2)=false:=beq_eq_false_iff_ne.2 (by omega);have hmt:MT wr (w2.heap.size+1) w2.heap.size w1.heap.size (w.heap.size+1) g.length order cur:=
            ⟨hTM.cell (by omega) ((Za HtbZ.out).1 0),(hTM.gr.block _ (by omega) (by simp;omega)).trans HTZ.out,hob,hTM.os⟩
           have hcall:=Zvc dn p (w2.heap.size+1) w2.heap.size w1.heap.size (w.heap.size+1) g.length wr HR.out HSw.out.ok rfl hlen hlt hmt hds ⟨q,hpp⟩;have HTM:=hid hTM;have HMe:=hid hMe;have Hpp:=hid hpp;have Htk:=hid htk;have Hds:=hid hds;clear hTM hP hx hc4 hpp htk hMe hmt hds
           repeat go_step
           refine hcall.mono ?_;rintro e w5 ⟨d5,rfl,a1,a2,a3,q5,rfl⟩;go_wp2_with fail;go_roundw
           case rel=>
            have hs5:=HSw.out.ok.anc_mem HR.out a1 Hds.out;exact⟨d5,i+1,rfl,by go_num,by omega,HTM.out.drewN q5,by rw[Htk.out];exact PD.meet HMe.out Hpp.out a1 a2 a3 hs5.2⟩
           case measure=>simp[intOf];omega
        ·have hPD':=hPD;rw[List.take_of_length_le (by omega)] at hPD';have hSw:=HSw.out;have hbr:b≠root:=fun e=>by
          have h1:=Hplc.out;subst e;rw[HR.out.root_plc] at h1;omega
         obtain⟨q0,hq1,hq2,hq3⟩:=HR.out.pred b hbm hbr;have hq0:q0∈r:=by rw[Hr.out];exact (Kz HR.out hbn hq1 hlt).2 hq2
         obtain⟨r0,hr0⟩:=hSw.done q0 hq1 (by have:=Hplc.out;omega)
         rcases hPD' with ⟨rfl,hnone⟩|⟨dn,rfl,hds,hMe⟩
         ·have:=hnone q0 hq0;rw[hr0] at this
          cases this
         ·have hbl:b<cur.length:=by rw[hSw.ok.len];exact hbn
          obtain⟨k1,k2⟩:=hTM.out hbl;have hstep:=hSw.step HR.out HH.out hlt hbm Hplc.out (by omega) (by rw[<-Hr.out];exact hMe);have HTM:=hid hTM;have Hstep:=hid hstep;have Hbl:=hid hbl
          by_cases hEq:ptr cur b=some dn
          ·rw[hEq] at k1;simp only[oi] at k1;have HEq:=hid hEq;clear hTM hPD hP hSw hbr hq1 hq2 hq3 hq0 hr0 hds hMe hstep hEq hbl;go_wp2_with fail;go_roundw
           case rel=>
            have h1:=Hstep.out;rw[Zwb Hbl.out HEq.out] at h1;simp only[HEq.out,decide_true,Bool.not_true,Bool.or_false] at h1;exact⟨t,j+1,rfl,by go_num,by omega,cur,HTM.out,h1⟩
           case measure=>simp[intOf];omega
          ·have hne:(oi (ptr cur b) != (dn:Int))=true:=by
            rw[bne_iff_ne];intro e
            apply hEq
            cases hpc:ptr cur b with
            |none=>rw[hpc] at e;simp only[oi] at e;omega
            |some q=>rw[hpc] at e;simp only[oi] at e;congr 1;omega
           have HEq:=hid hEq;obtain⟨ov,hov⟩:∃ ov,ov=oi (ptr cur b):=⟨_,rfl⟩
           rw[<-hov] at k1 hne;clear hTM hPD hP hSw hbr hq1 hq2 hq3 hq0 hr0 hds hMe hstep hEq hov hbl;go_wp2_with fail;go_roundw
           case rel=>
            have h1:=Hstep.out;simp only[HEq.out,decide_false,Bool.not_false,Bool.or_true] at h1;exact⟨true,j+1,rfl,by go_num,by omega,_,HTM.out.put,h1⟩
           case measure=>simp[intOf];omega
      ·have HN:=hid (show ∃ o,TM wZ wr (w.heap.size+1) o/\LoopS g root order o t (Phi order old)/\(t=false->True) from by
        refine⟨cur,hTM,⟨fun e=>?_,fun e=>?_⟩,fun _=>trivial⟩
        ·subst e
         have:=hSw.meas
         simp only[if_true] at this
         exact⟨⟨hSw.ok,.inr (hSw.full HR.out (by omega))⟩,this⟩
        ·subst e
         exact hSw.tree HR.out (by omega))
       clear hTM hSw;go_wp2_with fail;go_roundg (Phi order old)
       case measure=>have:=HPm.out;omega
       case rel=>
        obtain⟨o',h1,h2,_⟩:=HN.out;exact⟨t,rfl,o',h1,h2⟩
end
section
open Go.RowKit
def Zqw (o:Out) (root:Nat):List Value:=(Zaf o).set root (.int .i64 (-1))
structure TreeAt (w:World) (B O:Nat) (g:Gph) (order:List Nat) (o:Out):Prop where
 lt:O<B
 blk:w.heap[O]?=some (.cells (Zqw o 0).toArray 3 (0,0))
 rpo:RPO g 0 order
 ok:TreeOk g 0 order o
 nodes:∀ x∈order,x<g.length
theorem TreeAt.below {w w':World} {B B' O:Nat} {g:Gph} {order:List Nat} {o:Out} (h:TreeAt w B O g order o) (hb:Below B' w w') (hB:B<=B'):TreeAt w' B O g order o:=
 ⟨h.lt,(hb.block O (Lm h.lt hB)).trans h.blk,h.rpo,h.ok,h.nodes⟩
theorem TreeAt.more {w:World} {B B' O:Nat} {g:Gph} {order:List Nat} {o:Out} (h:TreeAt w B O g order o) (hB:B<=B'):TreeAt w B' O g order o:=
 ⟨Lm h.lt hB,h.blk,h.rpo,h.ok,h.nodes⟩
open Classical in
noncomputable def Zar (g:Gph) (a b:Nat):Bool:=decide (Path g 0 b/\Zah g 0 a b)
theorem Zlk {g:Gph} {order:List Nat} {o:Out} (R:RPO g 0 order) (h:TreeOk g 0 order o) (hl:∀ x∈order,x<g.length) {a b:Nat} (hb:b∈order):(Zar g a b=true↔Anc o b a):=by
 simp only[Zar,decide_eq_true_eq];rw[h.iff R hl hb];exact⟨fun h=>h.2,fun h=>⟨(R.mem b).1 hb,h⟩⟩
theorem TreeAt.cell {w:World} {B O:Nat} {g:Gph} {order:List Nat} {o:Out} (h:TreeAt w B O g order o) {b:Nat} (hb:b<g.length):w.cell? ⟨O,b,none⟩=some (.int .i64 (if b=0 then-1 else oi (ptr o b))):=by
 have hl:b<o.length:=by rw[h.ok.ok.len];exact hb
 rw[(Za h.blk).1]
 by_cases e:b=0
 ·subst e;simp[Zqw,Zaf,hl]
 ·have e':¬ 0=b:=fun e2=>e e2.symm
  simp only[Zqw,Zaf,List.getElem?_toArray];rw[List.getElem?_set_ne e',List.getElem?_map,List.getElem?_eq_getElem hl];simp[ptr,List.getD,hl,e]
theorem dom_any (a b n O B:Nat) (g:Gph) (order:List Nat) (o:Out) (w:World) (hn:n=g.length) (hn2:n<=65536) (ha:a<n) (hb:b<n) (hT:TreeAt w B O g order o):
  Calls Tryz.prog 190 #[.slice (some ⟨O,0,none⟩) n n,.int .i64 a,.int .i64 b] w fun e w'=>e=.returned (.bool (Zar g a b))/\w=w':=by
 have hbc:=hT.cell (b:=b) (by omega);have q1:decide ((a:Int)<0)=false:=by simp
 have q2:decide ((b:Int)<0)=false:=by simp
 have q3:decide ((a:Int)>=n)=false:=by simp;omega
 have q4:decide ((b:Int)>=n)=false:=by simp;omega
 have q5:decide (n<=a)=false:=by simp;omega
 have q6:decide (n<=b)=false:=by simp;omega
 have HT:=hid hT
 by_cases hbo:b∈order
 ·obtain⟨p,hp⟩:=hT.ok.all b hbo;have hv:∃ v:Int,(if b=0 then-1 else oi (ptr o b))=v/\(v == -2)=false:=by
   refine⟨_,rfl,beq_eq_false_iff_ne.2 ?_⟩;rw[hp]
   split
   ·omega
   ·simp only[oi];omega
  obtain⟨v,hv1,hv2⟩:=hv;rw[hv1] at hbc;have Hbo:=hid hbo;clear hT hp hv1 hbo;go_enter Tryz.func190,Tryz.ntmps190;go_wp2;clear hbc;go_loop [2,35] (fun s2 s35=>∃ (b' k:Nat),s2=.int .i64 b'/\s35=.int .i64 k/\b'<n/\Hid (Anc o b b'/\(Anc o b a->Anc o b' a)/\plc order b'+k<=plc order b)) (fun _ s35=>n+1-(intOf s35).toNat)
  case atStart=>exact⟨b,0,rfl,rfl,hb,.refl _,id,Lf _⟩
  case round=>
   obtain⟨b',k,rfl,rfl,hbl,hI⟩:=hrel;obtain⟨h1,h2,h3⟩:=hI.out;have hbp:plc order b<order.length:=List.idxOf_lt_length_of_mem Hbo.out;have hol:order.length<=n:=by
    have:=HT.out.rpo.nodup.length_le_of_subset (l₂:=List.range g.length) (fun x hx=>List.mem_range.2 (HT.out.nodes x hx));rw[hn];simpa using this
   have hk:k<n+1:=by omega
   obtain⟨hbm',p,hp⟩:=HT.out.ok.ok.anc_mem HT.out.rpo h1 (HT.out.ok.all b Hbo.out);have hc:=HT.out.cell (b:=b') (by omega)
   by_cases hab:a=b'
   ·have HD:=hid (show Zar g a b=true by rw[Zlk HT.out.rpo HT.out.ok HT.out.nodes Hbo.out,hab];exact h1);subst hab;clear h1 h2 hp hc hI;go_wp2;go_ret;exact⟨by rw[HD.out];rfl,rfl⟩
   ·have hab1:((a:Int) == b')=false:=beq_eq_false_iff_ne.2 (by omega)
    by_cases hb0:b'=0
    ·subst hb0
     have HD:=hid (show Zar g a b=false by
      rw[Bool.eq_false_iff]
      intro h
      exact hab (HT.out.ok.ok.anc_root HT.out.rpo (h2 ((Zlk HT.out.rpo HT.out.ok HT.out.nodes Hbo.out).1 h))))
     rw[if_pos rfl] at hc;clear h1 h2 hp hI;go_wp2;go_ret;exact⟨by rw[HD.out];rfl,rfl⟩
    ·rw[if_neg hb0,hp] at hc;simp only[oi] at hc;obtain⟨_,hpo,_,hplt⟩:=HT.out.ok.ok.low b' p hp hb0;have hpn:p<n:=by rw[hn];exact HT.out.nodes p hpo
     have r1:decide ((p:Int)<0)=false:=by simp
     have r2:decide ((p:Int)>=n)=false:=by simp;omega
     have r3:decide (n<=p)=false:=by simp;omega
     have HN:=hid (show Anc o b p/\(Anc o b a->Anc o p a)/\plc order p+(k+1)<=plc order b from ⟨h1.trans (.up hp (.refl _)),fun h=>HT.out.ok.ok.anc_up HT.out.rpo hp (h2 h) hab,by omega⟩);clear h1 h2 hp hI h3 hplt;go_wp2;go_round
     case rel=>exact⟨p,k+1,rfl,by go_num,hpn,HN.out⟩
     case measure=>simp[intOf];omega
 ·have hb0:b≠0:=fun e=>hbo (e▸hT.rpo.root_mem)
  have hpn:ptr o b=none:=by
   cases e:ptr o b with
   |none=>rfl
   |some p=>exact absurd (hT.ok.ok.mem hT.rpo e).1 hbo
  rw[if_neg hb0,hpn] at hbc;simp only[oi] at hbc
  have HD:=hid (show Zar g a b=false by
   simp only[Zar,decide_eq_false_iff_not]
   exact fun h=>hbo ((hT.rpo.mem b).2 h.1))
  clear hT hpn hbo;go_enter Tryz.func190,Tryz.ntmps190;go_wp2;go_ret;exact⟨by rw[HD.out];rfl,rfl⟩
end

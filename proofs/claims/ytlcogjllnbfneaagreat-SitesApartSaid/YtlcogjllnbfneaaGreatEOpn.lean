/- An input that reads as a datum lies in memory as our plain data. Conditions in it. -/
import Derived.Test.YtlcogjllnbfneaaGreatEBase
import Derived.Deep.Slices
import Derived.OpenShut
set_option linter.unnecessarySimpa false
set_option maxHeartbeats 1000000
set_option maxRecDepth 100000
set_option linter.all false
namespace Go.Proofs.YtlcogjllnbfneaaGreat
open Go.RowKit Go.ChangeShapes Go.WideShapes Go.Deep
section
variable {H:Type} {enc:TypeId×Value->H} {w:World}
noncomputable abbrev Yu (enc:TypeId×Value->H) (w:World) (n:Nat) (t:TypeId) (cs:List Value):Option (DataW H×List MemPlace):=DataW.trod enc Tryz.prog w 0 (fun _=>true) true n t cs
def WOk (t:TypeId) (d:DataW H):Prop:=∀ n∈d.weights Tryz.prog t,n<=140737488351232
theorem Xs {P:Program}:∀ {ts:List TypeId} {ds:List (DataW H)} {i:Nat} {t:TypeId} {d:DataW H} {n:Nat},ts[i]?=some t->ds[i]?=some d->n∈d.weights P t->n∈DataW.weightsEach P ts ds
 |t::ts,d::ds,0,_,_,n,h1,h2,hn=>by
  cases h1;cases h2
  exact List.mem_append_left _ hn
 |t::ts,d::ds,i+1,_,_,n,h1,h2,hn=>List.mem_append_right _ (Xs (ts:=ts) (ds:=ds) (i:=i) (by simpa using h1) (by simpa using h2) hn)
 |[],_,i,_,_,_,h1,_,_=>by simp at h1
 |_::_,[],i,_,_,_,_,h2,_=>by simp at h2
theorem J5 {P:Program} {e:TypeId}:∀ {ds:List (DataW H)} {d:DataW H} {n:Nat},d∈ds->n∈d.weights P e->n∈DataW.weightsAll P e ds
 |[],_,_,h,_=>by cases h
 |x::ds,d,n,h,hn=>by
  rcases List.mem_cons.1 h with rfl|h
  ·exact List.mem_append_left _ hn
  ·exact List.mem_append_right _ (J5 h hn)
theorem Kd {t:TypeId} {fs:Array Field} {n:Nat} {cs:List Value} {x:DataW H×List MemPlace} (ht:Tryz.prog.underlying t=some (.struct fs)) (h:Yu enc w n t cs=some x) (hw:WOk t x.1):
  ∃ m,cs.length=Tryz.prog.cellsOf t/\∀ (i:Nat) (f:Field),fs[i]?=some f->∃ y,Yu enc w m f.type ((cs.drop f.offset).take (Tryz.prog.cellsOf f.type))=some y/\WOk f.type y.1:=by
 obtain⟨xs,m,_,rfl,hl,hxs,hf⟩:=DataW.trod_struct ht h;refine⟨m,hl,fun i f hi=>?_⟩;have h1:=hf i f hi;have hlt:i<xs.length:=by rw[hxs];exact (Array.getElem?_eq_some_iff.1 hi).1
 rw[List.getElem?_eq_getElem hlt] at h1;refine⟨_,h1,fun n hn=>hw n ?_⟩;have e:DataW.weights Tryz.prog t (.agg (xs.map (·.1)))=DataW.weightsEach Tryz.prog (fs.toList.map (·.type)) (xs.map (·.1)):=by
  simp only[DataW.weights,ht]
 show n∈DataW.weights Tryz.prog t (.agg (xs.map (·.1)));rw[e];refine Xs (i:=i) (t:=f.type) (d:=xs[i].1) ?_ ?_ hn
 ·rw[List.getElem?_map,Array.getElem?_toList,hi];rfl
 ·rw[List.getElem?_map,List.getElem?_eq_getElem hlt];rfl
theorem Q6 {t:TypeId} {n:Nat} {cs:List Value} {x:DataW H×List MemPlace} (ht:Tryz.prog.underlying t=some .string) (h:Yu enc w n t cs=some x):∃ s:Str,cs=[.string ⟨s.toArray⟩]/\s.length<=9223372036854775807:=by
 obtain⟨s,rfl,_,hs⟩:=DataW.trod_string ht h;refine⟨s.data.toList,by cases s;simp,?_⟩;have:s.data.toList.length=s.size:=by cases s;rfl
 rw[this];simpa [maxLen] using hs
theorem Zby {α:Type} (R:Rdr α) {t e:TypeId} {sz by_ n:Nat} {cs:List Value} {x:DataW H×List MemPlace} (ht:Tryz.prog.underlying t=some (.slice e)) (hsz:Tryz.prog.cellsOf e=sz) (hpos:0<sz) (hby:Tryz.prog.bytesOf e=by_)
  (h:Yu enc w n t cs=some x) (hw:WOk t x.1)
  (hel:∀ (m:Nat) (cs':List Value) (y:DataW H×List MemPlace) (b off:Nat),b<w.heap.size->(∀ j,j<sz->w.cell? ⟨b,off+j,none⟩=cs'[j]?)->Yu enc w m e cs'=some y->WOk e y.1->∃ z:α,R w w.heap.size b off z):
  ∃ v l,cs=[v]/\SlAt R sz w w.heap.size v l/\l.length*by_<=140737488351232:=by
 rcases open_slice ht h with ⟨rfl,_⟩|⟨a,len,cap,m,k,D,Pl,rfl,_,hlc,hcm,hm,rfl,hx⟩
 ·exact⟨_,[],rfl,SlAt.nil_ R sz w _,by simp⟩
 ·rw[if_pos rfl] at hm;subst hm;subst hsz;subst hby;have hwe:DataW.weights Tryz.prog t (.slice ((List.range len).map D) ((List.range (m-len)).map fun j=>D (len+j)))=(((List.range len).map D).length+((List.range (m-len)).map fun j=>D (len+j)).length)*Tryz.prog.bytesOf e::(DataW.weightsAll Tryz.prog e ((List.range len).map D)++DataW.weightsAll Tryz.prog e ((List.range (m-len)).map fun j=>D (len+j))):=by
   simp only[DataW.weights,ht]
  have key:∀ i,i<len->∃ z:α,a.spot=none/\a.block<w.heap.size/\R w w.heap.size a.block (a.off+i*Tryz.prog.cellsOf e) z:=by
   intro i hi;obtain⟨cs',h1,h2⟩:=hx i (by omega);obtain⟨_,hl,hc⟩:=World.cells?_some h1;have h0:=hc 0 hpos;have hsome:∃ v,cs'[0]?=some v:=⟨_,Ld (by omega)⟩
   obtain⟨v,hv⟩:=hsome;rw[hv] at h0;have hadd0:(a.add (i*Tryz.prog.cellsOf e)).add 0=a.add (i*Tryz.prog.cellsOf e):=by simp[Addr.add]
   rw[hadd0] at h0;have hspot:a.spot=none:=by
    by_cases e0:i*Tryz.prog.cellsOf e=0
    ·rw[e0] at h0;exact World.cell?_spot (by simpa [Addr.add] using h0)
    ·
     obtain⟨cs0,h10,_⟩:=hx 0 (by omega);obtain⟨_,hl0,hc0⟩:=World.cells?_some h10;have h00:=hc0 0 hpos;rw[List.getElem?_eq_getElem (show 0<cs0.length by omega)] at h00;exact World.cell?_spot (by simpa [Addr.add] using h00)
   have ea:a=⟨a.block,a.off,none⟩:=by cases a;simp_all
   have eadd:∀ j,(a.add (i*Tryz.prog.cellsOf e)).add j=⟨a.block,a.off+i*Tryz.prog.cellsOf e+j,none⟩:=by
    intro j;rw[Deep.add_add,ea];unfold Addr.add
    split
    ·rename_i hz
     have h1:i*Tryz.prog.cellsOf e=0:=by omega
     have h2:j=0:=by omega
     simp[h1,h2]
    ·simp[Nat.add_assoc]
   have hb:a.block<w.heap.size:=by
    have e1:=eadd 0;rw[hadd0] at e1;rw[e1] at h0;simp only[World.cell?] at h0
    cases hh:w.heap[a.block]? with
    |none=>rw[hh] at h0;simp at h0
    |some o=>exact (Array.getElem?_eq_some_iff.1 hh).1
   obtain⟨z,hz⟩:=hel k cs' _ a.block (a.off+i*Tryz.prog.cellsOf e) hb (fun j hj=>by rw[<-eadd j];exact hc j hj) h2 (fun n hn=>hw n (by
    rw[hwe]
    refine List.mem_cons_of_mem _ (List.mem_append_left _ (J5 (d:=D i) ?_ hn))
    exact List.mem_map.2 ⟨i,by simpa using hi,rfl⟩))
   exact⟨z,hspot,hb,hz⟩
  obtain⟨f,hf⟩:∃ f:Fin len->α,∀ i:Fin len,a.spot=none/\a.block<w.heap.size/\R w w.heap.size a.block (a.off+i.1*Tryz.prog.cellsOf e) (f i):=
   ⟨fun i=>Classical.choose (key i.1 i.2),fun i=>Classical.choose_spec (key i.1 i.2)⟩
  have hlen:(List.ofFn f).length=len:=List.length_ofFn;refine⟨_,List.ofFn f,rfl,⟨some a,m,by rw[hlen],by rw[hlen];exact hlc,hcm,fun i z hz=>?_⟩,?_⟩
  ·have hil:i<len:=by have:=(Le hz).1;rw[hlen] at this;exact this
   have hz2:f ⟨i,hil⟩=z:=by
    rw[List.getElem?_ofFn] at hz;simpa [hil] using hz
   obtain⟨h2,h3,h4⟩:=hf ⟨i,hil⟩;rw[hz2] at h4;refine⟨a.block,a.off,?_,h3,h4⟩
   cases a
   simp_all
  ·have:=hw _ (by rw[hwe];exact List.mem_cons_self ..);simp only[List.length_map,List.length_range] at this;rw[hlen];refine Nat.le_trans (Nat.mul_le_mul_right _ ?_) this;omega
theorem Zcx {n:Nat} {cs:List Value} {x:DataW H×List MemPlace} (h:Yu enc w n 23 cs=some x) (hw:WOk 23 x.1):∃ v l,cs=[v]/\StrsAt w w.heap.size v l/\l.length*16<=140737488351232:=
 Zby strR Tryz.underlying23 (by kernel_rfl) (by decide) (by kernel_rfl) h hw fun m cs' y b off hb hc h' _=>by
  obtain⟨s,rfl,hs⟩:=Q6 Tryz.underlying9 h';exact⟨s,by simpa using hc 0 (by decide),hs⟩
theorem Zbx {k:IntKind} {t:TypeId} {n:Nat} {cs:List Value} {x:DataW H×List MemPlace} (ht:Tryz.prog.underlying t=some (.int k)) (h:Yu enc w n t cs=some x):∃ z,cs=[.int k z]/\(Lit.int k z).wf=true:=by
 obtain⟨z,h1,_,h2⟩:=DataW.trod_int ht h;exact⟨z,h1,h2⟩
theorem Zvp {m:Nat} {cs:List Value} {y:DataW H×List MemPlace} {b off:Nat} (hc:∀ j,j<8->w.cell? ⟨b,off+j,none⟩=cs[j]?) (h:Yu enc w m 25 cs=some y) (hw:WOk 25 y.1):∃ z,insR w w.heap.size b off z:=by
 obtain⟨k,hl,hf⟩:=Kd Tryz.underlying25 h hw;rw[show Tryz.prog.cellsOf 25=8 by kernel_rfl] at hl
 match cs,hl with
 |[c0,c1,c2,c3,c4,c5,c6,c7],_=>
  obtain⟨y0,h0,w0⟩:=hf 0 _ rfl;have g0:Yu enc w k 22 (([c0,c1,c2,c3,c4,c5,c6,c7].drop 0).take (Tryz.prog.cellsOf 22))=some y0:=h0;rw[show Tryz.prog.cellsOf 22=1 by kernel_rfl] at g0;replace g0:Yu enc w k 22 [c0]=some y0:=g0;have q0:=hc 0 (by decide);obtain⟨y1,h1,w1⟩:=hf 1 _ rfl;have g1:Yu enc w k 9 (([c0,c1,c2,c3,c4,c5,c6,c7].drop 1).take (Tryz.prog.cellsOf 9))=some y1:=h1;rw[show Tryz.prog.cellsOf 9=1 by kernel_rfl] at g1;replace g1:Yu enc w k 9 [c1]=some y1:=g1;have q1:=hc 1 (by decide);obtain⟨y2,h2,w2⟩:=hf 2 _ rfl;have g2:Yu enc w k 9 (([c0,c1,c2,c3,c4,c5,c6,c7].drop 2).take (Tryz.prog.cellsOf 9))=some y2:=h2;rw[show Tryz.prog.cellsOf 9=1 by kernel_rfl] at g2;replace g2:Yu enc w k 9 [c2]=some y2:=g2;have q2:=hc 2 (by decide);obtain⟨y3,h3,w3⟩:=hf 3 _ rfl;have g3:Yu enc w k 9 (([c0,c1,c2,c3,c4,c5,c6,c7].drop 3).take (Tryz.prog.cellsOf 9))=some y3:=h3;rw[show Tryz.prog.cellsOf 9=1 by kernel_rfl] at g3;replace g3:Yu enc w k 9 [c3]=some y3:=g3;have q3:=hc 3 (by decide);obtain⟨y4,h4,w4⟩:=hf 4 _ rfl;have g4:Yu enc w k 3 (([c0,c1,c2,c3,c4,c5,c6,c7].drop 4).take (Tryz.prog.cellsOf 3))=some y4:=h4;rw[show Tryz.prog.cellsOf 3=1 by kernel_rfl] at g4;replace g4:Yu enc w k 3 [c4]=some y4:=g4;have q4:=hc 4 (by decide);obtain⟨y5,h5,w5⟩:=hf 5 _ rfl;have g5:Yu enc w k 9 (([c0,c1,c2,c3,c4,c5,c6,c7].drop 5).take (Tryz.prog.cellsOf 9))=some y5:=h5;rw[show Tryz.prog.cellsOf 9=1 by kernel_rfl] at g5;replace g5:Yu enc w k 9 [c5]=some y5:=g5;have q5:=hc 5 (by decide);obtain⟨y6,h6,w6⟩:=hf 6 _ rfl;have g6:Yu enc w k 23 (([c0,c1,c2,c3,c4,c5,c6,c7].drop 6).take (Tryz.prog.cellsOf 23))=some y6:=h6;rw[show Tryz.prog.cellsOf 23=1 by kernel_rfl] at g6;replace g6:Yu enc w k 23 [c6]=some y6:=g6;have q6:=hc 6 (by decide);obtain⟨y7,h7,w7⟩:=hf 7 _ rfl;have g7:Yu enc w k 23 (([c0,c1,c2,c3,c4,c5,c6,c7].drop 7).take (Tryz.prog.cellsOf 23))=some y7:=h7;rw[show Tryz.prog.cellsOf 23=1 by kernel_rfl] at g7;replace g7:Yu enc w k 23 [c7]=some y7:=g7;have q7:=hc 7 (by decide);obtain⟨s0,e0,f0⟩:=Zbx Tryz.underlying22 g0;simp only[List.cons.injEq,and_true] at e0;subst e0;obtain⟨s1,e1,f1⟩:=Q6 Tryz.underlying9 g1;simp only[List.cons.injEq,and_true] at e1;subst e1;obtain⟨s2,e2,f2⟩:=Q6 Tryz.underlying9 g2;simp only[List.cons.injEq,and_true] at e2;subst e2;obtain⟨s3,e3,f3⟩:=Q6 Tryz.underlying9 g3;simp only[List.cons.injEq,and_true] at e3;subst e3;obtain⟨s4,e4,f4⟩:=Zbx Tryz.underlying3 g4;simp only[List.cons.injEq,and_true] at e4;subst e4;obtain⟨s5,e5,f5⟩:=Q6 Tryz.underlying9 g5;simp only[List.cons.injEq,and_true] at e5;subst e5;obtain⟨v6,s6,e6,f6,r6⟩:=Zcx g6 w6;simp only[List.cons.injEq,and_true] at e6;subst e6;obtain⟨v7,s7,e7,f7,r7⟩:=Zcx g7 w7;simp only[List.cons.injEq,and_true] at e7;subst e7;obtain⟨o1,o2⟩:=Go.bounds_u8 f0;obtain⟨n1,n2⟩:=Go.bounds_i64 f4;refine⟨⟨s0.toNat,s1,s2,s3,s4,s5,s6,s7⟩,_,_,⟨f6,by simp only[];omega,by simp only[];omega,f7,by simp only[];omega,n1,n2,f1,f2,f3,f5⟩,?_,?_,?_,?_,?_,?_,?_,?_⟩
  ·show w.cell? _=some (.int .u8 (s0.toNat:Int));rw[Int.toNat_of_nonneg o1];simpa using q0
  ·simpa using q1
  ·simpa using q2
  ·simpa using q3
  ·simpa using q4
  ·simpa using q5
  ·simpa using q6
  ·simpa using q7
theorem Zsy {n:Nat} {cs:List Value} {x:DataW H×List MemPlace} (h:Yu enc w n 28 cs=some x) (hw:WOk 28 x.1):∃ v l,cs=[v]/\CodeAt w w.heap.size v l/\l.length*128<=140737488351232:=
 Zby insR Tryz.underlying28 (by kernel_rfl) (by decide) (by kernel_rfl) h hw fun _ _ _ _ _ _ hc h' hw'=>Zvp hc h' hw'
theorem Zvn {m:Nat} {cs:List Value} {y:DataW H×List MemPlace} {b off:Nat} (hc:∀ j,j<2->w.cell? ⟨b,off+j,none⟩=cs[j]?) (h:Yu enc w m 39 cs=some y) (hw:WOk 39 y.1):∃ z,blkR w w.heap.size b off z/\z.code.length<=1099511627776:=by
 obtain⟨k,hl,hf⟩:=Kd Tryz.underlying39 h hw;rw[show Tryz.prog.cellsOf 39=2 by kernel_rfl] at hl
 match cs,hl with
 |[c0,c1],_=>
  obtain⟨y0,h0,w0⟩:=hf 0 _ rfl;have g0:Yu enc w k 9 (([c0,c1].drop 0).take (Tryz.prog.cellsOf 9))=some y0:=h0;rw[show Tryz.prog.cellsOf 9=1 by kernel_rfl] at g0;replace g0:Yu enc w k 9 [c0]=some y0:=g0;have q0:=hc 0 (by decide);obtain⟨y1,h1,w1⟩:=hf 1 _ rfl;have g1:Yu enc w k 28 (([c0,c1].drop 1).take (Tryz.prog.cellsOf 28))=some y1:=h1;rw[show Tryz.prog.cellsOf 28=1 by kernel_rfl] at g1;replace g1:Yu enc w k 28 [c1]=some y1:=g1;have q1:=hc 1 (by decide);obtain⟨s0,e0,f0⟩:=Q6 Tryz.underlying9 g0;simp only[List.cons.injEq,and_true] at e0;subst e0;obtain⟨v1,s1,e1,f1,r1⟩:=Zsy g1 w1;simp only[List.cons.injEq,and_true] at e1;subst e1;exact⟨⟨s0,s1⟩,⟨_,⟨f1,f0⟩,by simpa using q0,by simpa using q1⟩,by show s1.length<=_;omega⟩
theorem SlAt.apart {α:Type} {R:Rdr α} {Q:α->Prop} {sz:Nat} {w:World} {B:Nat} {v:Value} {l:List α} (h:SlAt (fun w B b o x=>R w B b o x/\Q x) sz w B v l):SlAt R sz w B v l/\∀ x∈l,Q x:=by
 obtain⟨A,c,e,h1,h2,h3⟩:=h;refine⟨⟨A,c,e,h1,h2,fun k x hx=>?_⟩,fun x hx=>?_⟩
 ·obtain⟨b,off,e,hb,hr⟩:=h3 k x hx;exact⟨b,off,e,hb,hr.1⟩
 ·obtain⟨k,hk⟩:=List.mem_iff_getElem?.1 hx;obtain⟨_,_,_,_,hr⟩:=h3 k x hk;exact hr.2
theorem Zsx {n:Nat} {cs:List Value} {x:DataW H×List MemPlace} (h:Yu enc w n 35 cs=some x) (hw:WOk 35 x.1):∃ v l,cs=[v]/\BlocksAt w w.heap.size v l/\∀ y∈l,y.code.length<=1099511627776:=by
 obtain⟨v,l,e,h1,_⟩:=Zby (by_:=40) (fun w B b o x=>blkR w B b o x/\x.code.length<=1099511627776) Tryz.underlying35 (by kernel_rfl) (by decide) (by kernel_rfl) h hw fun _ _ _ _ _ _ hc h' hw'=>Zvn hc h' hw'
 exact⟨v,l,e,h1.apart⟩
theorem Zvo {m:Nat} {cs:List Value} {y:DataW H×List MemPlace} {b off:Nat} (hc:∀ j,j<3->w.cell? ⟨b,off+j,none⟩=cs[j]?) (h:Yu enc w m 37 cs=some y) (hw:WOk 37 y.1):∃ z,funR w w.heap.size b off z/\∀ u∈z.bk9,u.code.length<=1099511627776:=by
 obtain⟨k,hl,hf⟩:=Kd Tryz.underlying37 h hw;rw[show Tryz.prog.cellsOf 37=3 by kernel_rfl] at hl
 match cs,hl with
 |[c0,c1,c2],_=>
  obtain⟨y0,h0,w0⟩:=hf 0 _ rfl;have g0:Yu enc w k 9 (([c0,c1,c2].drop 0).take (Tryz.prog.cellsOf 9))=some y0:=h0;rw[show Tryz.prog.cellsOf 9=1 by kernel_rfl] at g0;replace g0:Yu enc w k 9 [c0]=some y0:=g0;have q0:=hc 0 (by decide);obtain⟨y1,h1,w1⟩:=hf 1 _ rfl;have g1:Yu enc w k 23 (([c0,c1,c2].drop 1).take (Tryz.prog.cellsOf 23))=some y1:=h1;rw[show Tryz.prog.cellsOf 23=1 by kernel_rfl] at g1;replace g1:Yu enc w k 23 [c1]=some y1:=g1;have q1:=hc 1 (by decide);obtain⟨y2,h2,w2⟩:=hf 2 _ rfl;have g2:Yu enc w k 35 (([c0,c1,c2].drop 2).take (Tryz.prog.cellsOf 35))=some y2:=h2;rw[show Tryz.prog.cellsOf 35=1 by kernel_rfl] at g2;replace g2:Yu enc w k 35 [c2]=some y2:=g2;have q2:=hc 2 (by decide);obtain⟨s0,e0,f0⟩:=Q6 Tryz.underlying9 g0;simp only[List.cons.injEq,and_true] at e0;subst e0;obtain⟨v1,s1,e1,f1,r1⟩:=Zcx g1 w1;simp only[List.cons.injEq,and_true] at e1;subst e1;obtain⟨v2,s2,e2,f2,r2⟩:=Zsx g2 w2;simp only[List.cons.injEq,and_true] at e2;subst e2;exact⟨⟨s0,s1,s2⟩,⟨_,_,⟨f1,f2,f0⟩,by simpa using q0,by simpa using q1,by simpa using q2⟩,r2⟩
theorem Zsz {n:Nat} {cs:List Value} {x:DataW H×List MemPlace} (h:Yu enc w n 45 cs=some x) (hw:WOk 45 x.1):∃ v l,cs=[v]/\ProgAt w w.heap.size v l/\∀ f∈l,∀ u∈f.bk9,u.code.length<=1099511627776:=by
 obtain⟨v,l,e,h1,_⟩:=Zby (by_:=64) (fun w B b o x=>funR w B b o x/\∀ u∈x.bk9,u.code.length<=1099511627776) Tryz.underlying45 (by kernel_rfl) (by decide) (by kernel_rfl) h hw fun _ _ _ _ _ _ hc h' hw'=>Zvo hc h' hw'
 exact⟨v,l,e,h1.apart⟩
theorem Yhz {n:Nat} {v:Value} {cs:Array Value} {x:DataW H×List MemPlace} (hv:v=.agg cs) (h:Yu enc w n 47 v.cells.toList=some x) (hw:WOk 47 x.1):∃ vp p,v=.agg #[vp]/\ProgAt w w.heap.size vp p/\∀ f∈p,∀ u∈f.bk9,u.code.length<=1099511627776:=by
 subst hv;obtain⟨k,hl,hf⟩:=Kd Tryz.underlying47 h hw;rw[show Tryz.prog.cellsOf 47=1 by kernel_rfl] at hl;obtain⟨c0,rfl⟩:∃ c,cs= #[c]:=by
  have:cs.size=1:=by simpa [Value.cells] using hl
  exact Array.size_eq_one_iff.1 this
 obtain⟨y0,h0,w0⟩:=hf 0 _ rfl;have g0:Yu enc w k 45 (((Value.agg #[c0]).cells.toList.drop 0).take (Tryz.prog.cellsOf 45))=some y0:=h0;rw[show Tryz.prog.cellsOf 45=1 by kernel_rfl] at g0;replace g0:Yu enc w k 45 [c0]=some y0:=g0;obtain⟨vp,p,e0,f0,hle⟩:=Zsz g0 w0;simp only[List.cons.injEq,and_true] at e0;subst e0;exact⟨_,p,rfl,f0,hle⟩
theorem Ziy {n:Nat} {v:Value} {cs:Array Value} {x:DataW H×List MemPlace} (hv:v=.agg cs) (h:Yu enc w n 47 v.cells.toList=some x) (hw:WOk 47 x.1):∃ vp p,v=.agg #[vp]/\ProgAt w w.heap.size vp p:=by
 obtain⟨vp,p,h1,h2,_⟩:=Yhz hv h hw;exact⟨vp,p,h1,h2⟩
end

/- An input that reads as a datum lies in memory as our plain data. Conditions in it. -/
import Derived.Deep.Slices
import Derived.OpenShut
import Derived.Test.YtphnnmecmiodhaaGreatELwv
import Derived.ProofKit
import Derived.ShutString
import Derived.ChangeOld
import Derived.Below
import Derived.SizedLaws
set_option linter.unnecessarySimpa false
set_option maxRecDepth 100000
set_option linter.unusedVariables false
set_option linter.unusedSimpArgs false
set_option linter.unusedSectionVars false
namespace Go.Proofs.YtphnnmecmiodhaaGreat
section
open Go.RowKit Go.ChangeShapes Go.WideShapes Go.Deep
section
variable {H:Type} {enc:TypeId×Value->H} {w:World}
noncomputable abbrev Yu (enc:TypeId×Value->H) (w:World) (n:Nat) (t:TypeId) (cs:List Value):Option (DataW H×List MemPlace):=DataW.trod enc Tryz.prog w 0 (fun _=>true) true n t cs
def WOk (t:TypeId) (d:DataW H):Prop:=∀ n∈d.weights Tryz.prog t,n<=140737488351232
theorem Xs {P:Program}:∀ {ts:List TypeId} {ds:List (DataW H)} {i:Nat} {t:TypeId} {d:DataW H} {n:Nat},ts[i]?=some t->ds[i]?=some d->n∈d.weights P t->n∈DataW.weightsEach P ts ds
 |t::ts,d::ds,0,_,_,n,h1,h2,hn=>by
  cases h1;cases h2
  exact List.mem_append_left _ hn
 |t::ts,d::ds,i+1,_,_,n,h1,h2,hn=>List.mem_append_right _ (Xs (ts:=ts) (ds:=ds) (i:=i) (by simpa using h1) (by simpa using h2) hn)
 |[],_,i,_,_,_,h1,_,_=>by simp at h1
 |_::_,[],i,_,_,_,_,h2,_=>by simp at h2
theorem Kd {t:TypeId} {fs:Array Field} {n:Nat} {cs:List Value} {x:DataW H×List MemPlace} (ht:Tryz.prog.underlying t=some (.struct fs)) (h:Yu enc w n t cs=some x) (hw:WOk t x.1):
  ∃ m,cs.length=Tryz.prog.cellsOf t/\∀ (i:Nat) (f:Field),fs[i]?=some f->∃ y,Yu enc w m f.type ((cs.drop f.offset).take (Tryz.prog.cellsOf f.type))=some y/\WOk f.type y.1:=by
 obtain⟨xs,m,_,rfl,hl,hxs,hf⟩:=DataW.trod_struct ht h;refine⟨m,hl,fun i f hi=>?_⟩;have h1:=hf i f hi;have hlt:i<xs.length:=by rw[hxs];exact (Array.getElem?_eq_some_iff.1 hi).1
 rw[List.getElem?_eq_getElem hlt] at h1;refine⟨_,h1,fun n hn=>hw n ?_⟩;have e:DataW.weights Tryz.prog t (.agg (xs.map (·.1)))=DataW.weightsEach Tryz.prog (fs.toList.map (·.type)) (xs.map (·.1)):=by
  simp only[DataW.weights,ht]
 show n∈DataW.weights Tryz.prog t (.agg (xs.map (·.1)));rw[e];refine Xs (i:=i) (t:=f.type) (d:=xs[i].1) ?_ ?_ hn
 ·rw[List.getElem?_map,Array.getElem?_toList,hi];rfl
 ·rw[List.getElem?_map,List.getElem?_eq_getElem hlt];rfl
theorem Zbx {k:IntKind} {t:TypeId} {n:Nat} {cs:List Value} {x:DataW H×List MemPlace} (ht:Tryz.prog.underlying t=some (.int k)) (h:Yu enc w n t cs=some x):∃ z,cs=[.int k z]/\(Lit.int k z).wf=true:=by
 obtain⟨z,h1,_,h2⟩:=DataW.trod_int ht h;exact⟨z,h1,h2⟩
end
end
section
open Go.RowKit Go.ChangeShapes Go.WideShapes Go.Deep
variable {H:Type} {enc:TypeId×Value->H} {w:World}
theorem Yaj {n:Nat} {cs:List Value} {x:DataW H×List MemPlace} (h:Yu enc w n 3 cs=some x):∃ z:Int,cs=[.int .i64 z]:=by
 obtain⟨z,h1,h2⟩:=Zbx Tryz.underlying3 h;exact⟨z,h1⟩
theorem Ycv {n:Nat} {cs:List Value} {x:DataW H×List MemPlace} (h:Yu enc w n 41 cs=some x) (hw:WOk 41 x.1):∃ a b c:Int,cs=[.int .i64 a,.int .i64 b,.int .i64 c]:=by
 obtain⟨k,hl,hf⟩:=Kd Tryz.underlying41 h hw;rw[show Tryz.prog.cellsOf 41=3 by kernel_rfl] at hl;obtain⟨c0,c1,c2,rfl⟩:∃ a b c,cs=[a,b,c]:=by
  match cs,hl with
  |[a,b,c],_=>exact⟨a,b,c,rfl⟩
 have hc:Tryz.prog.cellsOf 3=1:=by kernel_rfl
 obtain⟨y0,h0,-⟩:=hf 0 _ rfl;obtain⟨y1,h1,-⟩:=hf 1 _ rfl;obtain⟨y2,h2,-⟩:=hf 2 _ rfl;have g0:Yu enc w k 3 (([c0,c1,c2].drop 0).take (Tryz.prog.cellsOf 3))=some y0:=h0;have g1:Yu enc w k 3 (([c0,c1,c2].drop 1).take (Tryz.prog.cellsOf 3))=some y1:=h1;have g2:Yu enc w k 3 (([c0,c1,c2].drop 2).take (Tryz.prog.cellsOf 3))=some y2:=h2;rw[hc] at g0 g1 g2;obtain⟨a,ha⟩:=Yaj g0;obtain⟨b,hb⟩:=Yaj g1;obtain⟨c,hcc⟩:=Yaj g2;simp at ha hb hcc;exact⟨a,b,c,by rw[ha,hb,hcc]⟩
theorem Ybw {n:Nat} {v:Value} {cs:Array Value} {x:DataW H×List MemPlace} (hv:v=.agg cs) (h:Yu enc w n 93 v.cells.toList=some x) (hw:WOk 93 x.1):∃ a b c d e:Int,v=.agg #[.int .i64 a,.int .i64 b,.int .i64 c,.int .i64 d,.int .i64 e]:=by
 subst hv;obtain⟨k,hl,hf⟩:=Kd Tryz.underlying93 h hw;rw[show Tryz.prog.cellsOf 93=5 by kernel_rfl] at hl;obtain⟨l,rfl⟩:∃ l:List Value,cs=l.toArray:=⟨cs.toList,by simp⟩
 have hl':l.length=5:=by simpa [Value.cells] using hl
 obtain⟨c0,c1,c2,c3,c4,rfl⟩:∃ a b c d e,l=[a,b,c,d,e]:=by
  match l,hl' with
  |[a,b,c,d,e],_=>exact⟨a,b,c,d,e,rfl⟩
 have hc:Tryz.prog.cellsOf 3=1:=by kernel_rfl
 have hp:Tryz.prog.cellsOf 41=3:=by kernel_rfl
 obtain⟨y0,h0,w0⟩:=hf 0 _ rfl;obtain⟨y1,h1,-⟩:=hf 1 _ rfl;obtain⟨y2,h2,-⟩:=hf 2 _ rfl;have g0:Yu enc w k 41 (([c0,c1,c2,c3,c4].drop 0).take (Tryz.prog.cellsOf 41))=some y0:=h0;have g1:Yu enc w k 3 (([c0,c1,c2,c3,c4].drop 3).take (Tryz.prog.cellsOf 3))=some y1:=h1;have g2:Yu enc w k 3 (([c0,c1,c2,c3,c4].drop 4).take (Tryz.prog.cellsOf 3))=some y2:=h2;rw[hp] at g0;rw[hc] at g1 g2;obtain⟨a,b,c,ha⟩:=Ycv g0 w0;obtain⟨d,hd⟩:=Yaj g1;obtain⟨e,he⟩:=Yaj g2;simp at ha hd he;obtain⟨rfl,rfl,rfl⟩:=ha;exact⟨a,b,c,d,e,by rw[hd,he]⟩
theorem Ycs {n:Nat} {v:Value} {cs:Array Value} {x:DataW H×List MemPlace} (hv:v=.agg cs) (h:Yu enc w n 81 v.cells.toList=some x) (hw:WOk 81 x.1):∃ a b c d:Int,v=.agg #[.int .i64 a,.int .i64 b,.int .i64 c,.int .i64 d]:=by
 subst hv;obtain⟨k,hl,hf⟩:=Kd Tryz.underlying81 h hw;rw[show Tryz.prog.cellsOf 81=4 by kernel_rfl] at hl;obtain⟨l,rfl⟩:∃ l:List Value,cs=l.toArray:=⟨cs.toList,by simp⟩
 have hl':l.length=4:=by simpa [Value.cells] using hl
 obtain⟨c0,c1,c2,c3,rfl⟩:∃ a b c d,l=[a,b,c,d]:=by
  match l,hl' with
  |[a,b,c,d],_=>exact⟨a,b,c,d,rfl⟩
 have hc:Tryz.prog.cellsOf 3=1:=by kernel_rfl
 have hp:Tryz.prog.cellsOf 41=3:=by kernel_rfl
 obtain⟨y0,h0,w0⟩:=hf 0 _ rfl;obtain⟨y1,h1,-⟩:=hf 1 _ rfl;have g0:Yu enc w k 41 (([c0,c1,c2,c3].drop 0).take (Tryz.prog.cellsOf 41))=some y0:=h0;have g1:Yu enc w k 3 (([c0,c1,c2,c3].drop 3).take (Tryz.prog.cellsOf 3))=some y1:=h1;rw[hp] at g0;rw[hc] at g1;obtain⟨a,b,c,ha⟩:=Ycv g0 w0;obtain⟨d,hd⟩:=Yaj g1;simp at ha hd;obtain⟨rfl,rfl,rfl⟩:=ha;exact⟨a,b,c,d,by rw[hd]⟩
end

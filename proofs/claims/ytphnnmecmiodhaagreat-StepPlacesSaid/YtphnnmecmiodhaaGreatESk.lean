/- The contracts of package cell, the rest. Conditions in it. -/
import Derived.Test.YtphnnmecmiodhaaGreatESm
set_option maxHeartbeats 8000000
set_option maxRecDepth 100000
set_option linter.all false
namespace Go.Proofs.YtphnnmecmiodhaaGreat
open Lib(hid)
section
open Go.RowKit Go.Shelf
variable {W:World} {base:Nat} {a:HAd} {hp:GHp}
theorem thing_1 {ob b i bp bi:Nat} {z:Value} (c1:W.cell? ⟨ob,1,none⟩=some (.int .i64 b)) (hb:b<=1000000) (k2:W.cell? ⟨bp,2,none⟩=some (.int .i64 i)) (hi:i<=16384) (hc:W.heap[bi]?=some (.cells #[z] 3 (0,0))):
  Calls Tryz.prog 125 #[.pointer (some ⟨ob,0,none⟩),.pointer (some ⟨bp,0,none⟩),.pointer (some ⟨bi,0,none⟩)] W fun e w'=>e=.returned (.tuple #[])/\w'.heap[bi]?=some (.cells #[.int .i64 ((b+i:Nat))] 3 (0,0))/\Chg (fun n=>n=bi) W w':=by
 have b0:=(Za hc).1 0;have f0:=(Za hc).2 0;have Hc:=hid hc;have hw1:IntKind.i64.wrap ((b:Int)+(i:Int))=((b+i:Nat):Int):=by rw[IntKind.wrap_i64];omega
 clear hc;go_enter Tryz.func125,Tryz.ntmps125;go_region_law (fail)
 all_goals (go_wp2_with fail;go_end0)
 all_goals exact⟨rfl,Zs Hc.out 0 _,(Chg.set (Q:=fun n=>n=bi) W (p:=⟨bi,0,none⟩) rfl _).drew⟩
theorem Zxb:∀ args w,(callFunc 125 args).run Tryz.prog w=.ok (.enter 125 args) w:=enters_of Tryz.func125 (by kernel_rfl) rfl
theorem Zyb (h:HpAt W base a hp) (hs:Ya hp<=16384) (hf:∀ o∈hp,o.1<=1000000) (x:GVal):Calls Tryz.prog 83 #[.pointer (some ⟨a.h,0,none⟩),Yf x] W fun e w'=>(∃ n:Nat,e=.returned (.tuple #[.int .i64 n,.bool (decide (Yi hp x=0))])/\(Yi hp x=0->n=Zwv hp x))/\W.grownBy w' none:=by
 obtain⟨W2,hW2⟩:∃ W2:World,W2=(W.alloc (.cells #[.int .u8 x.kind,.int .i64 x.obj,.int .i64 x.n] 72)).alloc (.cells #[.int .i64 0] 3):=⟨_,rfl⟩
 have hg2:W.grownBy W2 none:=by rw[hW2];exact Zd (Lc W _ none) _
 have hbx:W2.heap[W.heap.size]?=some (.cells #[.int .u8 x.kind,.int .i64 x.obj,.int .i64 x.n] 72 (0,0)):=by rw[hW2];exact Zc (La W _) _
 have hbv:W2.heap[W.heap.size+1]?=some (.cells #[.int .i64 0] 3 (0,0)):=by
  rw[hW2];have:=La (W.alloc (.cells #[.int .u8 x.kind,.int .i64 x.obj,.int .i64 x.n] 72)) (.cells #[.int .i64 0] 3);simpa using this
 have h2:=h.chg (Chg.grown (Q:=fun _=>False) hg2 (fun r e=>by cases e)) (fun _ _ e=>e);have k0:=(Za hbx).1 0;have k1:=(Za hbx).1 1;have k2:=(Za hbx).1 2;have Hg:=hid hg2;have Hbv:=hid hbv;unfold Yf
 by_cases h0:Yi hp x=0
 ·obtain⟨e1,xo,v,e2,e3,e4⟩:=Js h0;obtain⟨ga,ca,o,xo',g1,g2,g3,g4,g5,g6,g7,g8⟩:=h2.read (Le e2).1;rw[e2] at g5
  cases g5
  have d1:=(h2.obj _ _ _ g4 e2).2.2.1;have hnl:=(Le e3).1;have hlen:=Zoo e2;have hbs:=hf _ (Ll e2);have hy:=Zcu h2 e1 g4 e2 hnl (f:=125) (lb:= #[.pointer (some ⟨W.heap.size,0,none⟩),.pointer (some ⟨W.heap.size+1,0,none⟩)])
   (Po:=fun w'=>w'.heap[W.heap.size+1]?=some (.cells #[.int .i64 ((xo.1+x.n:Nat))] 3 (0,0))/\W.grownBy w' none) Zxb (fun W' hg=>by
    have hb:=Zk hg
    refine (thing_1 (cur hb (Ze d1) g8) hbs (cur hb (Ze hbx) k2) (by omega) ((hg.block _ (Ze hbv) (by simp)).trans hbv)).mono fun e w' he=>⟨he.1,he.2.1,?_⟩
    exact Chg.after (Zb hg2 hg) he.2.2 (fun n hn q=>by omega))
  unfold Yf at hy;rw[decide_eq_true h0];have Hn:=hid (show xo.1+x.n=Zwv hp x by unfold Zwv;rw[e2];rfl);clear h h2 hbx hbv hg2 e1 e2 e3 e4 g1 g2 g3 g4 g6 g7 g8 d1 hnl hlen h0 hf;go_enter Tryz.func83,Tryz.ntmps83;go_upto_region 2 with (fail)
  rw[<-hW2];clear hW2;go_upto_region 3 with (go_at_call 124;refine hy.mono ?_;rintro e w' ⟨rfl,hb3,hg3⟩)
  have v0:w'.cell? ⟨W.heap.size+1,0,none⟩=some (.int .i64 ((xo.1+x.n:Nat))):=(Za hb3).1 0;clear hb3 k0 k1 k2 hy;go_wp2;go_ret2;exact⟨⟨_,rfl,fun _=>Hn.out⟩,hg3⟩
 ·have hy:=Zgb h2 h0 (.func (.func 125) #[] #[.pointer (some ⟨W.heap.size,0,none⟩),.pointer (some ⟨W.heap.size+1,0,none⟩)]);unfold Yf at hy;rw[decide_eq_false h0];have h0':¬ ((Yi hp x:Nat):Int)=0:=by omega
  have H0:=hid h0;clear h h2 hbx hbv hg2 h0;go_enter Tryz.func83,Tryz.ntmps83;go_upto_region 2 with (fail)
  rw[<-hW2];clear hW2;go_upto_region 3 with (go_at_call 124;refine hy.mono ?_;rintro e w' ⟨rfl,hg3⟩)
  have v0:w'.cell? ⟨W.heap.size+1,0,none⟩=some (.int .i64 0):=(Za ((hg3.block _ (Ze Hbv.out) (by simp)).trans Hbv.out)).1 0;have Hg3:=hid (Zb Hg.out hg3);clear hg3 k0 k1 k2 hy;go_wp2;go_ret2;exact⟨⟨0,by first|rfl|simp[h0',H0.out]|(simp;omega),fun e=>absurd e H0.out⟩,Hg3.out⟩
theorem Zsa (h:HpAt W base a hp) (hs:Ya hp<=16384) (x:GVal) (k:Int) (hk:0<=k/\k<=1000000):Calls Tryz.prog 177 #[.pointer (some ⟨a.h,0,none⟩),Yf x,.int .i64 k] W fun e w'=>e=.returned (.tuple #[Yf (V1 hp x k).1,.int .u8 (V1 hp x k).2])/\W.grownBy w' none:=by
 obtain⟨W4,hW4⟩:∃ W4:World,W4=(((W.alloc (.cells #[.int .u8 x.kind,.int .i64 x.obj,.int .i64 x.n] 72)).alloc (.cells #[.int .i64 k] 3)).alloc (.cells #[.int .u8 0,.int .i64 0,.int .i64 0] 72)).alloc (.cells #[.bool false] 4):=⟨_,rfl⟩
 have hg4:W.grownBy W4 none:=by rw[hW4];exact Zd (Zd (Zd (Lc W _ none) _) _) _
 have hbx:W4.heap[W.heap.size]?=some (.cells #[.int .u8 x.kind,.int .i64 x.obj,.int .i64 x.n] 72 (0,0)):=by rw[hW4];exact Zc (Zc (Zc (La W _) _) _) _
 have hbk:W4.heap[W.heap.size+1]?=some (.cells #[.int .i64 k] 3 (0,0)):=by
  rw[hW4];have:=La (W.alloc (.cells #[.int .u8 x.kind,.int .i64 x.obj,.int .i64 x.n] 72)) (.cells #[.int .i64 k] 3);exact Zc (Zc (by simpa using this) _) _
 have hbv:W4.heap[W.heap.size+1+1]?=some (.cells #[.int .u8 0,.int .i64 0,.int .i64 0] 72 (0,0)):=by
  rw[hW4];have:=La ((W.alloc (.cells #[.int .u8 x.kind,.int .i64 x.obj,.int .i64 x.n] 72)).alloc (.cells #[.int .i64 k] 3)) (.cells #[.int .u8 0,.int .i64 0,.int .i64 0] 72);exact Zc (by simpa using this) _
 have hbi:W4.heap[W.heap.size+1+1+1]?=some (.cells #[.bool false] 4 (0,0)):=by
  rw[hW4];have:=La (((W.alloc (.cells #[.int .u8 x.kind,.int .i64 x.obj,.int .i64 x.n] 72)).alloc (.cells #[.int .i64 k] 3)).alloc (.cells #[.int .u8 0,.int .i64 0,.int .i64 0] 72)) (.cells #[.bool false] 4);simpa using this
 have h2:=h.chg (Chg.grown (Q:=fun _=>False) hg4 (fun r e=>by cases e)) (fun _ _ e=>e);have k0:=(Za hbx).1 0;have k1:=(Za hbx).1 1;have k2:=(Za hbx).1 2;have kk:=(Za hbk).1 0;have Hg:=hid hg4;have Hbx:=hid hbx;have Hbk:=hid hbk;have Hbv:=hid hbv;unfold Yf
 by_cases h0:Yi hp x=0
 ·obtain⟨e1,xo,v,e2,e3,e4⟩:=Js h0;obtain⟨ga,ca,o,xo',g1,g2,g3,g4,g5,g6,g7,g8⟩:=h2.read (Le e2).1;rw[e2] at g5
  cases g5
  have d1:=(h2.obj _ _ _ g4 e2).2.2.1;have hnl:=(Le e3).1;have hlen:=Zoo e2;have hlx:Zqc hp x=xo.2.length:=by unfold Zqc;rw[e2];rfl
  obtain⟨b,hb⟩:∃ b,b=decide (-(x.n:Int)<=k/\k<(xo.2.length:Int)-(x.n:Int)):=⟨_,rfl⟩
  have hy:=Zcu h2 e1 g4 e2 hnl (f:=233) (lb:= #[.pointer (some ⟨W.heap.size+1,0,none⟩),.pointer (some ⟨W.heap.size,0,none⟩),.pointer (some ⟨W.heap.size+1+1+1,0,none⟩)])
   (Po:=fun w'=>w'.heap[W.heap.size+1+1+1]?=some (.cells #[.bool b] 4 (0,0))/\Chg (fun n=>n=W.heap.size+1+1+1) W4 w') Zhs (fun W' hg=>by
    have hb':=Zk hg
    refine (step_1 hk.1 (cur hb' (Ze d1) g7) (by omega) (cur hb' (Ze hbx) k2) hnl (cur hb' (Ze hbk) kk) ((hg.block _ (Ze hbi) (by simp)).trans hbi)).mono fun e w' he=>⟨he.1,by rw[hb];exact he.2.1,?_⟩
    exact (Chg.grown (Q:=fun n=>n=W.heap.size+1+1+1) hg (fun r e=>by cases e)).trans he.2.2 (fun _ _ e=>e))
  unfold Yf at hy;have hres:V1 hp x k=if b=true then (⟨1,x.obj,((x.n:Int)+k).toNat⟩,0) else (nilV,3):=by
   unfold V1;rw[if_pos h0,hlx,hb]
   by_cases q: -(x.n:Int)<=k/\k<(xo.2.length:Int)-(x.n:Int)
   ·rw[if_pos q,if_pos (decide_eq_true q)]
   ·rw[if_neg q,if_neg (by simp only[decide_eq_true_eq];exact q)]
  have hw1:b=true->IntKind.i64.wrap ((x.n:Int)+k)=((((x.n:Int)+k).toNat:Nat):Int):=fun e=>by
   rw[hb,decide_eq_true_eq] at e;rw[IntKind.wrap_i64];omega
  obtain⟨zn,hzn⟩:∃ zn:Nat,zn=((x.n:Int)+k).toNat:=⟨_,rfl⟩
  rw[<-hzn] at hres hw1;rw[hres];have Hw:=hid hw1;clear hzn;clear h h2 hbx hbk hbv hbi hg4 e1 e2 e3 e4 g1 g2 g3 g4 g6 g7 g8 d1 hnl hlen h0 hlx hres hw1 hb;go_enter Tryz.func177,Tryz.ntmps177;go_upto_region 2 with (fail)
  rw[<-hW4];clear hW4;go_upto_region 3 with (go_at_call 124;refine hy.mono ?_;rintro e w' ⟨rfl,hb3,hc3⟩)
  clear k0 k1 k2 kk hy;have i0:w'.cell? ⟨W.heap.size+1+1+1,0,none⟩=some (.bool b):=(Za hb3).1 0;have hbv':=hc3.at_ Hbv.out (by omega);have q1:w'.cell? ⟨W.heap.size,1,none⟩=some (.int .i64 x.obj):=(Za (hc3.at_ Hbx.out (by omega))).1 1;have q2:w'.cell? ⟨W.heap.size,2,none⟩=some (.int .i64 x.n):=(Za (hc3.at_ Hbx.out (by omega))).1 2;have q3:w'.cell? ⟨W.heap.size+1,0,none⟩=some (.int .i64 k):=(Za (hc3.at_ Hbk.out (by omega))).1 0;have v0:w'.cell? ⟨W.heap.size+1+1,0,none⟩=some (.int .u8 0):=(Za hbv').1 0;have v1:w'.cell? ⟨W.heap.size+1+1,1,none⟩=some (.int .i64 0):=(Za hbv').1 1;have v2:w'.cell? ⟨W.heap.size+1+1,2,none⟩=some (.int .i64 0):=(Za hbv').1 2;have f0:=(Za hbv').2 0;have f1:=(Za hbv').2 1;have f2:=(Za hbv').2 2;have Hb3:=hid hbv';have Hg3:=hid (Chg.after Hg.out hc3 (fun n hn q=>by omega));clear hb3 hc3 hbv'
  cases b with
  |true=>
   have hw:=Hw.out rfl;go_wp2;obtain⟨wf,hwf⟩:∃ wf:World,wf=((w'.setCell ⟨W.heap.size+1+1,0,none⟩ (.int .u8 1)).setCell ⟨W.heap.size+1+1,1,none⟩ (.int .i64 x.obj)).setCell ⟨W.heap.size+1+1,2,none⟩ (.int .i64 (zn:Int)):=⟨_,rfl⟩
   rw[<-hwf];have hbf:=hwf▸Y8 Hb3.out (.int .u8 1) (.int .i64 x.obj) (.int .i64 (zn:Int));have u0:=(Za hbf).1 0;have u1:=(Za hbf).1 1;have u2:=(Za hbf).1 2;refine bodyPost_ret (v:=.tuple #[Yf ⟨1,x.obj,zn⟩,.int .u8 0]) (by simp[results,Tryz.results177,go_sem,u0,u1,u2,Yf]) rfl ⟨rfl,?_⟩;rw[hwf];exact Chg.after Hg3.out (Jm w' _ _ _ _ _ _ _) (fun n hn q=>by omega)
  |false=>
   go_wp2;obtain⟨wf,hwf⟩:∃ wf:World,wf=((w'.setCell ⟨W.heap.size+1+1,0,none⟩ (.int .u8 0)).setCell ⟨W.heap.size+1+1,1,none⟩ (.int .i64 0)).setCell ⟨W.heap.size+1+1,2,none⟩ (.int .i64 0):=⟨_,rfl⟩
   rw[<-hwf];have hbf:=hwf▸Y8 Hb3.out (.int .u8 0) (.int .i64 0) (.int .i64 0);have u0:=(Za hbf).1 0;have u1:=(Za hbf).1 1;have u2:=(Za hbf).1 2;refine bodyPost_ret (v:=.tuple #[Yf nilV,.int .u8 3]) (by simp[results,Tryz.results177,go_sem,u0,u1,u2,Yf,nilV]) rfl ⟨rfl,?_⟩;rw[hwf];exact Chg.after Hg3.out (Jm w' _ _ _ _ _ _ _) (fun n hn q=>by omega)
 ·have hy:=Zgb h2 h0 (.func (.func 233) #[] #[.pointer (some ⟨W.heap.size+1,0,none⟩),.pointer (some ⟨W.heap.size,0,none⟩),.pointer (some ⟨W.heap.size+1+1+1,0,none⟩)]);unfold Yf at hy;have hres:V1 hp x k=(nilV,Yi hp x):=by unfold V1;rw[if_neg h0]
  rw[hres];have h0':¬ ((Yi hp x:Nat):Int)=0:=by omega
  clear h h2 hbx hbk hbv hbi hg4 h0 hres;go_enter Tryz.func177,Tryz.ntmps177;go_upto_region 2 with (fail)
  rw[<-hW4];clear hW4;go_upto_region 3 with (go_at_call 124;refine hy.mono ?_;rintro e w' ⟨rfl,hg3⟩)
  clear k0 k1 k2 kk hy;have hbv':=(hg3.block _ (Ze Hbv.out) (by simp)).trans Hbv.out;have v0:w'.cell? ⟨W.heap.size+1+1,0,none⟩=some (.int .u8 0):=(Za hbv').1 0;have v1:w'.cell? ⟨W.heap.size+1+1,1,none⟩=some (.int .i64 0):=(Za hbv').1 1;have v2:w'.cell? ⟨W.heap.size+1+1,2,none⟩=some (.int .i64 0):=(Za hbv').1 2;have f0:=(Za hbv').2 0;have f1:=(Za hbv').2 1;have f2:=(Za hbv').2 2;have Hb3:=hid hbv';have Hg3:=hid (Zb Hg.out hg3);clear hg3 hbv';go_wp2;obtain⟨wf,hwf⟩:∃ wf:World,wf=((w'.setCell ⟨W.heap.size+1+1,0,none⟩ (.int .u8 0)).setCell ⟨W.heap.size+1+1,1,none⟩ (.int .i64 0)).setCell ⟨W.heap.size+1+1,2,none⟩ (.int .i64 0):=⟨_,rfl⟩
  rw[<-hwf];have hbf:=hwf▸Y8 Hb3.out (.int .u8 0) (.int .i64 0) (.int .i64 0);have u0:=(Za hbf).1 0;have u1:=(Za hbf).1 1;have u2:=(Za hbf).1 2;refine bodyPost_ret (v:=.tuple #[Yf nilV,.int .u8 (Yi hp x:Nat)]) (by simp[results,Tryz.results177,go_sem,u0,u1,u2,Yf,nilV]) rfl ⟨rfl,?_⟩;rw[hwf];exact Chg.after Hg3.out (Jm w' _ _ _ _ _ _ _) (fun n hn q=>by omega)
theorem Zuq (W:World):Calls Tryz.prog 76 #[.int .i64 16384] W fun e w'=>e=.returned (.pointer (some ⟨W.heap.size,0,none⟩))/\(∀ base,HpAt w' base ⟨W.heap.size,.slice none 0 0,[]⟩ [])/\w'=W.alloc (.cells #[.slice none 0 0,.int .i64 0,.int .i64 16384] 197):=by
 go_enter Tryz.func76,Tryz.ntmps76;go_wp2;go_ret;exact⟨rfl,fun base=>⟨rfl,La W _,⟨rfl,.inl ⟨rfl,rfl⟩⟩,fun i o x h1=>by simp at h1,by simp⟩,rfl⟩
end
section
open Go.RowKit Go.Shelf
variable {W:World} {base:Nat} {a:HAd} {hp:GHp}
theorem infoPo:(Tryz.prog.info? 202).map (fun i=>(i.zero,i.size,i.bytes))=some (some (.pointer none),1,8):=by kernel_rfl
theorem Zus:(Tryz.prog.info? 72).map (fun i=>(i.zero,i.size,i.bytes))=some (some (.agg #[.int .u8 0,.int .i64 0,.int .i64 0]),3,24):=by kernel_rfl
theorem Zuz (n:Nat):madeCells (Value.cells (.agg #[.int .u8 0,.int .i64 0,.int .i64 0])) (n*3)=((List.replicate n nilV).flatMap Xh).toArray:=by
 have hz:Value.cells (.agg #[.int .u8 0,.int .i64 0,.int .i64 0])= #[.int .u8 0,.int .i64 0,.int .i64 0]:=rfl;rw[hz]
 apply Array.ext_getElem?
 intro i;have ta:∀ l:List Value,(l.toArray)[i]?=l[i]?:=fun l=>List.getElem?_toArray
 rw[ta ((List.replicate n nilV).flatMap Xh)]
 by_cases hi:i<n*3
 ·have hk:(List.replicate n nilV)[i / 3]?=some nilV:=by rw[List.getElem?_replicate,if_pos (by omega)]
  have h1:=Qz (f:=Xh) (sz:=3) (fun _ _=>rfl) hk (show i % 3<3 by omega);rw[show i / 3*3+i % 3=i by omega] at h1;rw[h1];have h2:(madeCells #[Value.int .u8 0,.int .i64 0,.int .i64 0] (n*3))[i]?=some (#[Value.int .u8 0,.int .i64 0,.int .i64 0][i % 3]!):=by
   unfold madeCells;rw[Array.getElem?_map,Array.getElem?_range,if_pos hi];rfl
  rw[h2];have h3:i % 3=0\/i % 3=1\/i % 3=2:=by omega
  rcases h3 with e|e|e<;>rw[e]<;>rfl
 ·have l1:(madeCells #[Value.int .u8 0,.int .i64 0,.int .i64 0] (n*3))[i]?=none:=by
   rw[Array.getElem?_eq_none];rw[size_madeCells];omega
  have l2:((List.replicate n nilV).flatMap Xh)[i]?=none:=by
   rw[List.getElem?_eq_none];have:∀ m,((List.replicate m nilV).flatMap Xh).length=m*3:=by
    intro m
    induction m with
    |zero=>rfl
    |succ m ih=>rw[List.replicate_succ,List.flatMap_cons,List.length_append,ih];simp[Xh];omega
   rw[this];omega
  rw[l1,l2]
theorem Zmw (n:Nat) (hn:n<=64) (w:World):(Instr.makeSlice 204 (.int .i64 n) (.int .i64 n)).run Tryz.prog w=.ok (.slice (some ⟨w.heap.size,0,none⟩) n n) (w.alloc (.cells ((List.replicate n nilV).flatMap Xh).toArray 72)):=by
 obtain⟨i,hi,hz0,hz1,hz2⟩:=info_parts Zus;have:=run_make (P:=Tryz.prog) w 204 72 i _ Tryz.underlying204 hi hz0 .i64 .i64 n n (by omega) (by omega) (by rw[hz2];omega) (by omega);rw[this,hz1,Int.toNat_natCast,Zuz]
theorem Zrx (h:HpAt W base a hp) (hbase:base<=W.heap.size) (hs:Ya hp<=16384) (hl:hp.length<=16384) {b n:Nat} (hn:1<=n/\n<=64) (hsz:Ya hp+n<=16384):
  Calls Tryz.prog 174 #[.pointer (some ⟨a.h,0,none⟩),.int .i64 b,.int .i64 n] W fun e w'=>e=.returned (.tuple #[Yf ⟨1,hp.length,0⟩,.int .u8 0])/\∃ a',HpAt w' base a' (hp++[(b,List.replicate n nilV)])/\a'.h=a.h/\Chg (HQ a) W w'/\∀ m,HQ a' m->HQ a m\/W.heap.size<=m:=by
 obtain⟨W1,hW1⟩:∃ W1:World,W1=W.alloc (.cells #[.int .u8 0,.int .i64 0,.int .i64 0] 72):=⟨_,rfl⟩
 have hg1:W.grownBy W1 none:=by rw[hW1];exact Lc _ _ _
 have hbv:W1.heap[W.heap.size]?=some (.cells #[.int .u8 0,.int .i64 0,.int .i64 0] 72 (0,0)):=by rw[hW1];exact La _ _
 have h1:=h.chg (Chg.grown (Q:=fun _=>False) hg1 (fun r e=>by cases e)) (fun _ _ e=>e);obtain⟨A,ca,e1,c0,e2,e3⟩:=h1.row0;have c1:W1.cell? ⟨a.h,1,none⟩=some (.int .i64 (Ya hp:Nat)):=(Za h1.blk).1 1;have c2:W1.cell? ⟨a.h,2,none⟩=some (.int .i64 16384):=(Za h1.blk).1 2;have hw1:IntKind.i64.wrap ((16384:Int)-(Ya hp:Nat))=(16384:Int)-(Ya hp:Nat):=by rw[IntKind.wrap_i64];omega
 have hq1:¬ ((n:Int)<1):=by omega
 have hq2:¬ ((64:Int)<(n:Int)):=by omega
 have hq3:¬ ((16384:Int)-(Ya hp:Nat)<(n:Int)):=by omega
 have hmk:=Zmw n hn.2;have H1:=hid h1;have Hbv:=hid hbv;have Hg1:=hid hg1;have H0:=hid h;have hw2:IntKind.i64.wrap ((Ya hp:Nat)+(n:Int))=((Ya hp+n:Nat):Int):=by rw[IntKind.wrap_i64];omega
 have hw3:IntKind.i64.wrap ((hp.length:Int)+1-1)=(hp.length:Int):=by rw[IntKind.wrap_i64];omega
 clear h h1 hbv hg1;go_enter Tryz.func174,Tryz.ntmps174;go_upto_region 1 with (fail)
 rw[<-hW1];clear hW1;go_quiet (fail);go_upto_region 3 with (fail)
 obtain⟨WD,hWD⟩:∃ WD:World,WD=W1.drewN nq:=⟨_,rfl⟩
 have HD:=hid (show HpAt WD base a hp by rw[hWD];exact H1.out.chg (Chg.grown (Q:=fun _=>False) (Zg (Lb W1 none) nq) (fun r e=>by cases e)) (fun _ _ e=>e));have HgD:=hid (show W.grownBy WD none by rw[hWD];exact Zg Hg1.out nq);have HbD:=hid (show WD.heap[W.heap.size]?=some (.cells #[.int .u8 0,.int .i64 0,.int .i64 0] 72 (0,0)) by rw[hWD];exact Hbv.out);have c0':WD.cell? ⟨a.h,0,none⟩=some (.slice A hp.length ca):=by rw[hWD];exact c0
 rw[<-hWD];clear hWD H1 Hg1 Hbv c0 c1 c2;have hrow:WD.ownsRow base 202 1 (.slice A hp.length ca) hp.length (a.os.map fun o=>Zgq o.1):=by
  have:=HD.out.row;rw[e1,HD.out.len] at this;exact this
 have Hrow:=hid hrow;have hhl:=Ze HD.out.blk;have hbd:base<=WD.heap.size:=by have:=HgD.out.size;omega
 have hne1:some a.h≠(Value.slice A hp.length ca).ownBlock:=fun e=>by
  obtain⟨cs,hh⟩:=Vh hrow e.symm;exact X4 hh HD.out.blk (by decide) rfl
 have hne2:some W.heap.size≠(Value.slice A hp.length ca).ownBlock:=fun e=>by
  obtain⟨cs,hh⟩:=Vh hrow e.symm;exact X4 hh HbD.out (by decide) rfl
 have hbl:=Ze HbD.out;have Hblk:=hid (show WD.heap[a.h]?=some (.cells #[.slice A hp.length ca,.int .i64 (Ya hp:Nat),.int .i64 16384] 197 (0,0)) by rw[<-e1];exact HD.out.blk);have He1:=hid e1;obtain⟨W6,hW6⟩:∃ W6:World,W6=((WD.alloc (.cells ((List.replicate n nilV).flatMap Xh).toArray 72)).alloc (.cells #[.slice (some ⟨WD.heap.size,0,none⟩) n n,.int .i64 b] 206)).alloc (.cells #[.pointer (some ⟨WD.heap.size+1,0,none⟩)] 202):=⟨_,rfl⟩
 have hg6:WD.grownBy W6 none:=by rw[hW6];exact Zd (Zd (Lc WD _ none) _) _
 have hs6:W6.heap.size=WD.heap.size+1+1+1:=by rw[hW6];simp
 have q0:W6.heap[WD.heap.size]?=some (.cells ((List.replicate n nilV).flatMap Xh).toArray 72 (0,0)):=by rw[hW6];exact Zc (Zc (La WD _) _) _
 have q1:W6.heap[WD.heap.size+1]?=some (.cells #[.slice (some ⟨WD.heap.size,0,none⟩) n n,.int .i64 b] 206 (0,0)):=by
  rw[hW6];have:=La (WD.alloc (.cells ((List.replicate n nilV).flatMap Xh).toArray 72)) (.cells #[.slice (some ⟨WD.heap.size,0,none⟩) n n,.int .i64 b] 206);exact Zc (by simpa using this) _
 have q2:W6.heap[WD.heap.size+1+1]?=some (.cells #[.pointer (some ⟨WD.heap.size+1,0,none⟩)] 202 (0,0)):=by
  rw[hW6];have:=La ((WD.alloc (.cells ((List.replicate n nilV).flatMap Xh).toArray 72)).alloc (.cells #[.slice (some ⟨WD.heap.size,0,none⟩) n n,.int .i64 b] 206)) (.cells #[.pointer (some ⟨WD.heap.size+1,0,none⟩)] 202);simpa using this
 have Hr6:=hid (show W6.ownsRow base 202 1 (.slice A hp.length ca) hp.length (a.os.map fun o=>Zgq o.1) by rw[hW6];exact ((hrow.alloc _).alloc _).alloc _);have Hh6:=hid ((hg6.block _ hhl (by simp)).trans Hblk.out);have Hq:=hid (And.intro q0 (And.intro q1 q2));have Hg6:=hid hg6;have Hs6:=hid hs6;have HW6:=hid hW6;have hn6:some (WD.heap.size)≠(Value.slice A hp.length ca).ownBlock:=fun e=>by have:=(hrow.lt _ e.symm).2;omega
 have hn7:some (WD.heap.size+1)≠(Value.slice A hp.length ca).ownBlock:=fun e=>by have:=(hrow.lt _ e.symm).2;omega
 have Hn:=hid (And.intro hne1 (And.intro hne2 (And.intro hn6 hn7)));have Hhl:=hid (And.intro hhl (And.intro hbl hbd));have hhl0:a.h<WD.heap.size:=hhl;have hhl1:a.h<WD.heap.size+1:=by omega
 have hhl2:a.h<WD.heap.size+1+1:=by omega
 clear hrow e1 q0 q1 q2 hW6 hs6 hg6 hn6 hn7 hne1 hne2
 go_region_law (rw[<-HW6.out];refine Uw rfl (.tmp 36) (.tmp 42) 195 rfl base 202 _ 1 8 Tryz.underlying195 infoPo rfl (by decide) (.slice A hp.length ca) _ _ rfl Hr6.out (WD.heap.size+1+1) [.pointer (some ⟨WD.heap.size+1,0,none⟩)] rfl (by simp[Value.oneCell']) rfl _ _ Hq.out.2.2 rfl (by unfold maxLen;omega) (by omega) (by show base<=W6.heap.size;rw[Hs6.out];omega) ?_;intro G cap w3 ho hg hor;
                                                           have hb3:=(hg.block a.h (by show a.h<W6.heap.size;rw[Hs6.out];omega) Hn.out.1).trans Hh6.out;
                                                           have x1:w3.cell? ⟨a.h,0,none⟩=some (.slice A hp.length ca):=(Za hb3).1 0;have x2:w3.frozen? ⟨a.h,0,none⟩=false:=(Za hb3).2 0;
                                                           have Hb3:=hid hb3;have Ho:=hid ho;have Hg:=hid hg;have Hor:=hid hor;clear hb3 ho hg hor)
 all_goals
  have hah:a.h≠W.heap.size:=X4 Hblk.out HbD.out (by decide);have hbv3:w3.heap[W.heap.size]?=some (.cells #[.int .u8 0,.int .i64 0,.int .i64 0] 72 (0,0)):=(Hg.out.block _ (by show W.heap.size<W6.heap.size;rw[Hs6.out];omega) Hn.out.2.1).trans ((Hg6.out.block _ hbl (by simp)).trans HbD.out);have ho3:w3.heap[WD.heap.size+1]?=_:=(Hg.out.block _ (by show _<W6.heap.size;rw[Hs6.out];omega) Hn.out.2.2.2).trans Hq.out.2.1;have hc3:w3.heap[WD.heap.size]?=_:=(Hg.out.block _ (by show _<W6.heap.size;rw[Hs6.out];omega) Hn.out.2.2.1).trans Hq.out.1;obtain⟨w4,hw4⟩:∃ w4:World,w4=w3.setCell ⟨a.h,0,none⟩ (.slice (some ⟨G,0,none⟩) (hp.length+1) cap):=⟨_,rfl⟩
  rw[<-hw4];have hb4:=hw4▸Zs Hb3.out 0 (.slice (some ⟨G,0,none⟩) (hp.length+1) cap);have hv4:w4.heap[W.heap.size]?=_:=hw4▸Yl hbv3 (p:=⟨a.h,0,none⟩) hah.symm (.slice (some ⟨G,0,none⟩) (hp.length+1) cap);have n0:w4.cell? ⟨a.h,0,none⟩=some (.slice (some ⟨G,0,none⟩) (hp.length+1) cap):=(Za hb4).1 0;have n1:w4.cell? ⟨a.h,1,none⟩=some (.int .i64 (Ya hp:Nat)):=(Za hb4).1 1;have m1:w4.frozen? ⟨a.h,1,none⟩=false:=(Za hb4).2 1;have b0:=(Za hv4).1 0;have b1:=(Za hv4).1 1;have b2:=(Za hv4).1 2;have f0:=(Za hv4).2 0;have f1:=(Za hv4).2 1;have f2:=(Za hv4).2 2;have Hb4:=hid (And.intro hb4 hv4);have H3:=hid (And.intro ho3 (And.intro hc3 hbv3));have Hw4:=hid hw4;clear hb4 hv4 ho3 hc3 hbv3 hw4 x1 x2 c0';go_wp2_with fail;obtain⟨wf,hwf⟩:∃ wf:World,wf=(((w4.setCell ⟨a.h,1,none⟩ (.int .i64 (((Ya hp:Nat):Int)+(n:Int)))).setCell ⟨W.heap.size,0,none⟩ (.int .u8 1)).setCell ⟨W.heap.size,1,none⟩ (.int .i64 hp.length)).setCell ⟨W.heap.size,2,none⟩ (.int .i64 0):=⟨_,rfl⟩
  rw[<-hwf];have hb5:=Zs Hb4.out.1 1 (.int .i64 (((Ya hp:Nat):Int)+(n:Int)));have hv5:=Yl Hb4.out.2 (p:=⟨a.h,1,none⟩) hah.symm (.int .i64 (((Ya hp:Nat):Int)+(n:Int)));have hbf:=hwf▸Y8 hv5 (.int .u8 1) (.int .i64 hp.length) (.int .i64 0);have u0:=(Za hbf).1 0;have u1:=(Za hbf).1 1;have u2:=(Za hbf).1 2;have c3f:Chg (fun k=>k=a.h\/k=W.heap.size) w3 wf:=by
   rw[hwf];refine Chg.trans (Q':=fun k=>k=W.heap.size) (Chg.trans (Q':=fun k=>k=a.h) ?_ (Chg.set (Q:=fun k=>k=a.h) w4 (p:=⟨a.h,1,none⟩) rfl _) (fun _ _ e=>.inl e)) (Jm _ _ _ _ _ _ _ _) (fun _ _ e=>.inr e);rw[Hw4.out];exact (Chg.set (Q:=fun k=>k=a.h\/k=W.heap.size) w3 (p:=⟨a.h,0,none⟩) (.inl rfl) _)
  have cWf:Chg (fun k=>k=a.h\/a.v.ownBlock=some k) W wf:=by
   refine Chg.trans (Q':=fun k=>k=a.h\/k=W.heap.size) (Chg.trans (Q':=fun k=>a.v.ownBlock=some k) (Chg.grown (Zb HgD.out (Zf Hg6.out)) (fun r e=>by cases e)) (Chg.grown Hg.out (fun r e=>by rw[He1.out];exact e)) (fun _ _ e=>.inr e)) c3f (fun k hk e=>by
    rcases e with e|e
    ·exact .inl e
    ·omega)
  refine bodyPost_ret (v:=.tuple #[Yf ⟨1,hp.length,0⟩,.int .u8 0]) (by simp[results,Tryz.results174,go_sem,u0,u1,u2,Yf]) rfl ⟨rfl,⟨a.h,.slice (some ⟨G,0,none⟩) (hp.length+1) cap,a.os++[(WD.heap.size+1,WD.heap.size)]⟩,?_,rfl,cWf.mono (fun k _ e=>e.elim .inl (fun e=>.inr (.inl e))),fun k hk=>?_⟩
  ·refine H0.out.push (o:=(WD.heap.size+1,WD.heap.size)) (x:=(b,List.replicate n nilV)) cWf ?_ ?_ ?_ ?_ (by have:=HgD.out.size;simp only;omega) (by simp only;omega) (by simp only;omega)
   ·rw[List.length_replicate,hwf,Int.natCast_add];exact Yl (Yl (Yl hb5 (p:=⟨W.heap.size,0,none⟩) hah _) (p:=⟨W.heap.size,1,none⟩) hah _) (p:=⟨W.heap.size,2,none⟩) hah _
   ·rw[H0.out.len];refine c3f.owns Ho.out fun k e q=>?_
    obtain⟨cs,hh⟩:=Vh Ho.out e
    rcases q with q|q
    ·exact X4 hh Hb3.out (by decide) q
    ·exact X4 hh H3.out.2.2 (by decide) q
   ·simp only[List.length_replicate];exact c3f.at_ H3.out.1 (by omega)
   ·exact c3f.at_ H3.out.2.1 (by omega)
  ·rcases hk with hk|hk|⟨o,ho,hk⟩
   ·exact .inl (.inl hk)
   ·simp only[Value.ownBlock,Option.some.injEq] at hk;subst hk
    rcases Hor.out with e|e
    ·exact .inl (.inr (.inl (by rw[He1.out];exact e)))
    ·right;have:W6.drew.heap.size=W6.heap.size:=rfl;have:=Hs6.out;have:=HgD.out.size;omega
   ·simp only at ho
    rcases List.mem_append.1 ho with ho|ho
    ·exact .inl (.inr (.inr ⟨o,ho,hk⟩))
    ·rw[List.mem_singleton.1 ho] at hk;have:=HgD.out.size;right;simp only at hk;omega
theorem Zoj (h:HpAt W base a hp) (hs:Ya hp<=16384) {b n:Nat} (hn:1<=n/\n<=64) (hsz:¬ Ya hp+n<=16384):
  Calls Tryz.prog 174 #[.pointer (some ⟨a.h,0,none⟩),.int .i64 b,.int .i64 n] W fun e w'=>e=.returned (.tuple #[Yf nilV,.int .u8 6])/\W.grownBy w' none:=by
 obtain⟨W1,hW1⟩:∃ W1:World,W1=W.alloc (.cells #[.int .u8 0,.int .i64 0,.int .i64 0] 72):=⟨_,rfl⟩
 have hg1:W.grownBy W1 none:=by rw[hW1];exact Lc _ _ _
 have hbv:W1.heap[W.heap.size]?=some (.cells #[.int .u8 0,.int .i64 0,.int .i64 0] 72 (0,0)):=by rw[hW1];exact La _ _
 have h1:=h.chg (Chg.grown (Q:=fun _=>False) hg1 (fun r e=>by cases e)) (fun _ _ e=>e);have c1:W1.cell? ⟨a.h,1,none⟩=some (.int .i64 (Ya hp:Nat)):=(Za h1.blk).1 1;have c2:W1.cell? ⟨a.h,2,none⟩=some (.int .i64 16384):=(Za h1.blk).1 2;have hw1:IntKind.i64.wrap ((16384:Int)-(Ya hp:Nat))=(16384:Int)-(Ya hp:Nat):=by rw[IntKind.wrap_i64];omega
 have hq1:¬ ((n:Int)<1):=by omega
 have hq2:¬ ((64:Int)<(n:Int)):=by omega
 have hq3:(16384:Int)-(Ya hp:Nat)<(n:Int):=by omega
 have b0:=(Za hbv).1 0;have b1:=(Za hbv).1 1;have b2:=(Za hbv).1 2;have f0:=(Za hbv).2 0;have f1:=(Za hbv).2 1;have f2:=(Za hbv).2 2;have Hbv:=hid hbv;have Hg1:=hid hg1;clear h h1 hbv hg1;go_enter Tryz.func174,Tryz.ntmps174;go_upto_region 1 with (fail)
 rw[<-hW1];clear hW1;go_quiet (fail);go_wp2;obtain⟨wf,hwf⟩:∃ wf:World,wf=(((W1.drewN nq).setCell ⟨W.heap.size,0,none⟩ (.int .u8 0)).setCell ⟨W.heap.size,1,none⟩ (.int .i64 0)).setCell ⟨W.heap.size,2,none⟩ (.int .i64 0):=⟨_,rfl⟩
 rw[<-hwf];have hbf:=hwf▸Y8 (show (W1.drewN nq).heap[W.heap.size]?=_ from Hbv.out) (.int .u8 0) (.int .i64 0) (.int .i64 0);have u0:=(Za hbf).1 0;have u1:=(Za hbf).1 1;have u2:=(Za hbf).1 2;refine bodyPost_ret (v:=.tuple #[Yf nilV,.int .u8 6]) (by simp[results,Tryz.results174,go_sem,u0,u1,u2,Yf,nilV]) rfl ⟨rfl,?_⟩;rw[hwf];exact Chg.after (Zg Hg1.out nq) (Jm _ _ _ _ _ _ _ _) (fun n hn q=>by omega)
end

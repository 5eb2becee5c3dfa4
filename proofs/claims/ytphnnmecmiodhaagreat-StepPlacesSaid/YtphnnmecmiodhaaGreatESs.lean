/- The machine of package step. Conditions in it. -/
import Derived.Test.YtphnnmecmiodhaaGreatESp
set_option maxHeartbeats 4000000
set_option maxRecDepth 100000
set_option linter.all false
namespace Go.Proofs.YtphnnmecmiodhaaGreat
open Lib(hid)
section
open Go.RowKit Go.Shelf
def fnV (f:Nat):Value:=.func (.func f) #[] #[]
def doL:List (Int×Value):=[(1,fnV 110),(2,fnV 110),(3,fnV 111),(4,fnV 112),(5,fnV 113),(7,fnV 114),(8,fnV 115),(9,fnV 116),(10,fnV 117),(11,fnV 118),(12,fnV 119),(13,fnV 120),(14,fnV 121)]
def Zqa:Obj:=Z7 encUI idV doL
theorem doObj_ok:(∃ es c,Zqa=.map es c)/\∀ l:List (Int×GVal),Zqa≠Z7 encZ Yf l:=by
 refine⟨⟨_,_,rfl⟩,fun l e=>?_⟩;injection e with e1 e2
 have:=congrArg (fun a:Array MapEntry=>(a[0]?).map (·.key)) e1
 cases l with
 |nil=>cases e2
 |cons x l=>simp[doL,Qu,encUI,encZ] at this
structure StE (wB:Bs) (lo ms:Nat) (vp:Value) (p:GProg):Prop where
 map:∀ W,Chg wB.Fr wB.toWorld W->MapL lo W ms p
 prog:∀ W,Chg wB.Fr wB.toWorld W->ProgAt W wB.heap.size vp p
 snd:SOk p
abbrev Ma (wB:Bs) (ms:Nat) (vp:Value) (W:World) (g:SAd) (s:GM):Prop:=MaAt wB ms vp Zqa W g s
variable {wB:Bs} {lo ms:Nat} {vp:Value} {p:GProg} {W W':World} {g:SAd} {s:GM} {l:List GAct} {a:GAct}
theorem StE.mapAt (E:StE wB lo ms vp p) (h:Ma wB ms vp W g s):MapL lo W ms p:=E.map W h.chg
theorem StE.ok (E:StE wB lo ms vp p):NOk p:=(E.map _ (Chg.refl _ _)).ok
theorem StE.progAt (E:StE wB lo ms vp p) (h:Ma wB ms vp W g s):ProgAt W wB.heap.size vp p:=E.prog W h.chg
theorem MaAt.top (h:Ma wB ms vp W g s) (ha:s.acts=l++[a]):∃ (gb c:Nat) (ad:Nat×Nat),g.v=.slice (some ⟨gb,0,none⟩) (l.length+1) c/\l.length+1<=c/\c<=maxLen/\g.av[l.length]?=some ad/\s.acts[l.length]?=some a/\
  W.cell? ⟨gb,l.length,none⟩=some (.pointer (some ⟨ad.1,0,none⟩))/\W.heap[ad.1]?=some (.cells (Zaq a ad.2) 149 (0,0))/\W.heap[ad.2]?=some (Z7 encZ Yf a.vars):=by
 have hl:=h.len;have hx:s.acts[l.length]?=some a:=by rw[ha];simp
 have hln:s.acts.length=l.length+1:=by rw[ha];simp
 have ho:g.av[l.length]?=some (g.av[l.length]'(by omega)):=Ld _;obtain⟨A,c,e,h1,h2,h3,h4⟩:=Zz h.row
 cases A with
 |none=>have:=(h3 rfl).1;omega
 |some b=>
  obtain⟨e2,-,-⟩:=h4 b rfl;rw[e2] at e;have hr:=h.row;rw[e] at hr;obtain⟨-,-,-,-,h6⟩:=Xm hr;obtain⟨-,-,c1,c2⟩:=h.act _ _ _ ho hx;refine⟨b.block,c,_,by rw[e,hl,hln],by omega,h2,ho,hx,h6 _ _ (by rw[List.getElem?_map,ho];rfl),c1,c2⟩
theorem MaAt.cell (h:Ma wB ms vp W g s) (j:Nat):W.cell? ⟨g.m,j,none⟩=(Vx ms vp g s)[j]?:=(Za h.blk).1 j
theorem Vo (h:Ma wB ms vp W g s) (ha:s.acts=l++[a]) {ad:Nat×Nat} (had:g.av[l.length]?=some ad):Calls Tryz.prog 78 #[.pointer (some ⟨g.m,0,none⟩)] W fun e w'=>e=.returned (.pointer (some ⟨ad.1,0,none⟩))/\∃ n,w'=W.drewN n:=by
 obtain⟨gb,c,ad',e1,e2,e3,e4,e5,c1,c2,c3⟩:=h.top ha;rw[had] at e4
 cases e4
 have m2:W.cell? ⟨g.m,2,none⟩=some (.slice (some ⟨gb,0,none⟩) (l.length+1) c):=by rw[<-e1];exact h.cell 2
 have hdp:l.length+1<=9223372036854775807:=by unfold maxLen at e3;omega
 have hw:IntKind.i64.wrap ((l.length:Int)+1-1)=(l.length:Int):=by rw[IntKind.wrap_i64];omega
 clear h ha had e1 e5 c2 c3 e3;go_enter Tryz.func78,Tryz.ntmps78;go_upto_region 1 with (fail)
 go_quiet (fail);go_wp2;go_ret;exact⟨rfl,_,rfl⟩
theorem Us (h:Ma wB ms vp W g s):Calls Tryz.prog 39 #[.pointer (some ⟨g.m,0,none⟩)] W fun e w'=>e=.returned (.int .u8 s.stop)/\W=w':=by
 have m3:W.cell? ⟨g.m,3,none⟩=some (.int .u8 s.stop):=h.cell 3;clear h;go_enter Tryz.func39,Tryz.ntmps39;go_wp2;go_ret;exact⟨rfl,rfl⟩
end
section
open Go.RowKit Go.Shelf
theorem Znz (W:World):Calls Tryz.prog 77 #[] W fun e w'=>∃ d,e=.returned (.map (some d))/\w'.heap[d]?=some Zqa/\W.heap.size<=d/\W.grownBy w' none:=by
 have hmk:∀ w:World,(Instr.makeMap 141 none).run Tryz.prog w=.ok (.map (some w.heap.size)) (w.alloc (Z7 encUI idV ([]:List (Int×Value)))):= @run_makeMap Tryz.prog 141;go_enter Tryz.func77,Tryz.ntmps77;go_wp2_with (refine Vt rfl _ _ _ _ rfl (Zgf Tryz.underlying22) Tryz.underlying141 _ _ rfl rfl _ _ rfl rfl ?_);go_ret;exact⟨_,rfl,La _ _,Lf _,Lc _ _ _⟩
end
section
open Go.RowKit Go.Shelf
variable {wB:Bs} {lo ms:Nat} {vp:Value} {p:GProg} {W W':World} {g:SAd} {s:GM} {l:List GAct} {a:GAct}
theorem zeroV:∀ w:World,(zeroValue 72).run Tryz.prog w=.ok (.agg #[.int .u8 0,.int .i64 0,.int .i64 0]) w:=fun w=>by kernel_rfl
theorem run_var {w:World} {r:Nat} {vars:List (Int×GVal)} (hb:w.heap[r]?=some (Z7 encZ Yf vars)) (k:Int) {x:GVal} (hx:x=(Z6 vars k).getD nilV):
  (Instr.lookup 147 (.map (some r)) (.int .i64 k) false).run Tryz.prog w=.ok (.agg #[.int .u8 x.kind,.int .i64 x.obj,.int .i64 x.n]) w:=by
 have h:=V4 (P:=Tryz.prog) (keyZ Tryz.underlying3) Tryz.underlying147 hb k (zeroV w);rw[show encZ k=.int .i64 k from rfl] at h;rw[h,hx]
 cases Z6 vars k<;>rfl
theorem Uj (E:StE wB lo ms vp p) (h:Ma wB ms vp W g s) (ha:s.acts=l++[a]) (t:Str):Calls Tryz.prog 176 #[.pointer (some ⟨g.m,0,none⟩),.string ⟨t.toArray⟩] W fun e w'=>e=.returned (Yf (a.has p t))/\W.grownBy w' none:=by
 obtain⟨W1,hW1⟩:∃ W1:World,W1=W.alloc (.cells #[.int .u8 0,.int .i64 0,.int .i64 0] 72):=⟨_,rfl⟩
 have hg1:W.grownBy W1 none:=by rw[hW1];exact Lc _ _ _
 have hbv:W1.heap[W.heap.size]?=some (.cells #[.int .u8 0,.int .i64 0,.int .i64 0] 72 (0,0)):=by rw[hW1];exact La _ _
 have h1:=h.grow hg1;obtain⟨gb,c,ad,e1,e2,e3,e4,e5,c1,c2,c3⟩:=h1.top ha
 have HSc:=hid (show ∀ W',W1.grownBy W' none->W'.cell? ⟨g.m,0,none⟩=some (.pointer (some ⟨ms,0,none⟩))/\W'.cell? ⟨ad.1,0,none⟩=some (.int .i64 a.pt.1) from fun W' hg=>by
  obtain⟨gb',c',ad',f1,f2,f3,f4,f5,d1,d2,d3⟩:=(h1.grow hg).top ha
  rw[e4] at f4
  cases f4
  exact⟨(h1.grow hg).cell 0,(Za d2).1 0⟩)
 have Ht:=hid (fun (W':World) (hg:W1.grownBy W' none)=>Vo (h1.grow hg) ha e4);have Hv:=hid (fun (W':World) (hg:W1.grownBy W' none)=>Zbw (E.mapAt (h1.grow hg)) (a.pt.1:Int) t)
 have Hm:=hid (fun (W':World) (hg:W1.grownBy W' none)=>show W'.heap[ad.2]?=some (Z7 encZ Yf a.vars)/\W'.cell? ⟨ad.1,3,none⟩=some (.map (some ad.2)) from by
  obtain⟨gb',c',ad',f1,f2,f3,f4,f5,d1,d2,d3⟩:=(h1.grow hg).top ha
  rw[e4] at f4
  cases f4
  exact⟨d3,(Za d2).1 3⟩)
 have Hbv:=hid hbv;have Hg1:=hid hg1;have hg:=Lb W1 none;obtain⟨v,hv⟩:∃ v:GVal,v=a.has p t:=⟨_,rfl⟩
 rw[<-hv];have Hx:=hid hv;clear h h1 hg1 hbv E e1 e2 e3 e4 e5 c1 c2 c3 ha hv;go_enter Tryz.func176,Tryz.ntmps176;go_upto_region 1 with (fail)
 rw[<-hW1];clear hW1;go_region_held3 (fun W'=>W'.cell? ⟨g.m,0,none⟩=some (.pointer (some ⟨ms,0,none⟩))/\W'.cell? ⟨ad.1,0,none⟩=some (.int .i64 a.pt.1)) (first|exact HSc.out _ hg|exact HSc.out _ (Zf hg)) ((first|(go_simp;go_at_call 78;first|(refine (Ht.out _ (Zf hg)).mono ?_;rintro e w1 ⟨rfl,n1,hn1⟩;have hg:=hn1▸Zg (Zf hg) n1;clear hn1)|(refine (Ht.out _ hg).mono ?_;rintro e w1 ⟨rfl,n1,hn1⟩;have hg:=hn1▸Zg hg n1;clear hn1))|(go_simp;go_at_call 34;first|(refine (Hv.out _ (Zf hg)).mono ?_;rintro e w1 ⟨rfl,hg1⟩;have hg:=Zb (Zf hg) hg1;clear hg1)|(refine (Hv.out _ hg).mono ?_;rintro e w1 ⟨rfl,hg1⟩;have hg:=Zb hg hg1;clear hg1))));have Hg:=hid hg;have Hl:=hid (fun n:Nat=>run_var (Hm.out (w1.drewN n) (Zg hg n)).1 (Zag p (a.pt.1:Int) t).1 (x:=v) Hx.out);have hc3:=(Hm.out w1 hg).2;have ht:=Ht.out w1 hg;have hbw:=(hg.block _ (Ze Hbv.out) (by simp)).trans Hbv.out;have b0:w1.cell? ⟨W.heap.size,0,none⟩=some (.int .u8 0):=(Za hbw).1 0;have b1:w1.cell? ⟨W.heap.size,1,none⟩=some (.int .i64 0):=(Za hbw).1 1;have b2:w1.cell? ⟨W.heap.size,2,none⟩=some (.int .i64 0):=(Za hbw).1 2;have f0:=(Za hbw).2 0;have f1:=(Za hbw).2 1;have f2:=(Za hbw).2 2;have Hbw:=hid hbw;clear hg HSc Ht Hv Hm hbw;go_upto_region 2 with (fail)
 go_wp2_with (go_at_call 78;refine ht.mono ?_;rintro e w2 ⟨rfl,n2,rfl⟩;have hl:=Hl.out n2);obtain⟨wf,hwf⟩:∃ wf:World,wf=(((w1.drewN n2).setCell ⟨W.heap.size,0,none⟩ (.int .u8 v.kind)).setCell ⟨W.heap.size,1,none⟩ (.int .i64 v.obj)).setCell ⟨W.heap.size,2,none⟩ (.int .i64 v.n):=⟨_,rfl⟩
 rw[<-hwf];have hbf:=hwf▸Y8 (show (w1.drewN n2).heap[W.heap.size]?=_ from Hbw.out) (.int .u8 v.kind) (.int .i64 v.obj) (.int .i64 v.n);have u0:=(Za hbf).1 0;have u1:=(Za hbf).1 1;have u2:=(Za hbf).1 2;refine bodyPost_ret (v:=Yf v) (by simp[results,Tryz.results176,go_sem,u0,u1,u2,Yf]) rfl ⟨rfl,?_⟩;rw[hwf];exact Chg.after (Zb Hg1.out (Zg Hg.out n2)) (Jm _ _ _ _ _ _ _ _) (fun n hn q=>by omega)
end
section
open Go.RowKit Go.Shelf
variable {wB:Bs} {lo ms:Nat} {vp:Value} {p:GProg} {W W':World} {g:SAd} {s:GM} {l:List GAct} {a:GAct}
theorem Zql (h:Ma wB ms vp W g s) (ha:s.acts=l++[a]) (h0:s.stop=0):Calls Tryz.prog 32 #[.pointer (some ⟨g.m,0,none⟩)] W fun e w'=>e=.returned (.tuple #[.agg #[.int .i64 a.pt.1,.int .i64 a.pt.2.1,.int .i64 a.pt.2.2],.bool true])/\W.grownBy w' none:=by
 obtain⟨W1,hW1⟩:∃ W1:World,W1=W.alloc (.cells #[.int .i64 0,.int .i64 0,.int .i64 0] 41):=⟨_,rfl⟩
 have hg1:W.grownBy W1 none:=by rw[hW1];exact Lc _ _ _
 have hbv:W1.heap[W.heap.size]?=some (.cells #[.int .i64 0,.int .i64 0,.int .i64 0] 41 (0,0)):=by rw[hW1];exact La _ _
 have h1:=h.grow hg1;have hst:=Us h1;rw[h0] at hst;obtain⟨gb,c,ad,e1,e2,e3,e4,e5,c1,c2,c3⟩:=h1.top ha;have ht:=Vo h1 ha e4;have d0:W1.cell? ⟨ad.1,0,none⟩=some (.int .i64 a.pt.1):=(Za c2).1 0;have d1:W1.cell? ⟨ad.1,1,none⟩=some (.int .i64 a.pt.2.1):=(Za c2).1 1;have d2:W1.cell? ⟨ad.1,2,none⟩=some (.int .i64 a.pt.2.2):=(Za c2).1 2;have b0:=(Za hbv).1 0;have b1:=(Za hbv).1 1;have b2:=(Za hbv).1 2;have f0:=(Za hbv).2 0;have f1:=(Za hbv).2 1;have f2:=(Za hbv).2 2;have Hbv:=hid hbv;have Hg1:=hid hg1;clear h h1 hg1 hbv e1 e2 e3 e4 e5 c1 c2 c3 ha h0;go_enter Tryz.func32,Tryz.ntmps32;go_upto_region 1 with (fail)
 rw[<-hW1];clear hW1;go_wp2_with (first|(go_at_call 39;refine hst.mono ?_;rintro e w1 ⟨rfl,rfl⟩)|(go_at_call 78;refine ht.mono ?_;rintro e w2 ⟨rfl,n2,rfl⟩));obtain⟨wf,hwf⟩:∃ wf:World,wf=(((W1.drewN n2).setCell ⟨W.heap.size,0,none⟩ (.int .i64 a.pt.1)).setCell ⟨W.heap.size,1,none⟩ (.int .i64 a.pt.2.1)).setCell ⟨W.heap.size,2,none⟩ (.int .i64 a.pt.2.2):=⟨_,rfl⟩
 rw[<-hwf];have hbf:=hwf▸Y8 (show (W1.drewN n2).heap[W.heap.size]?=_ from Hbv.out) (.int .i64 a.pt.1) (.int .i64 a.pt.2.1) (.int .i64 a.pt.2.2);have u0:=(Za hbf).1 0;have u1:=(Za hbf).1 1;have u2:=(Za hbf).1 2;refine bodyPost_ret (v:=.tuple #[.agg #[.int .i64 a.pt.1,.int .i64 a.pt.2.1,.int .i64 a.pt.2.2],.bool true]) (by simp[results,Tryz.results32,go_sem,u0,u1,u2]) rfl ⟨rfl,?_⟩;rw[hwf];exact Chg.after (Zg Hg1.out n2) (Jm _ _ _ _ _ _ _ _) (fun n hn q=>by omega)
theorem Zvb (h:Ma wB ms vp W g s) (h0:s.stop≠0):Calls Tryz.prog 32 #[.pointer (some ⟨g.m,0,none⟩)] W fun e w'=>e=.returned (.tuple #[.agg #[.int .i64 0,.int .i64 0,.int .i64 0],.bool false])/\W.grownBy w' none:=by
 obtain⟨W1,hW1⟩:∃ W1:World,W1=W.alloc (.cells #[.int .i64 0,.int .i64 0,.int .i64 0] 41):=⟨_,rfl⟩
 have hg1:W.grownBy W1 none:=by rw[hW1];exact Lc _ _ _
 have hbv:W1.heap[W.heap.size]?=some (.cells #[.int .i64 0,.int .i64 0,.int .i64 0] 41 (0,0)):=by rw[hW1];exact La _ _
 have h1:=h.grow hg1;have hst:=Us h1;have h0':¬ (s.stop:Int)=0:=by omega
 have b0:=(Za hbv).1 0;have b1:=(Za hbv).1 1;have b2:=(Za hbv).1 2;have f0:=(Za hbv).2 0;have f1:=(Za hbv).2 1;have f2:=(Za hbv).2 2;have Hbv:=hid hbv;have Hg1:=hid hg1;clear h h1 hg1 hbv h0;go_enter Tryz.func32,Tryz.ntmps32;go_upto_region 1 with (fail)
 rw[<-hW1];clear hW1;go_wp2_with (go_at_call 39;refine hst.mono ?_;rintro e w1 ⟨rfl,rfl⟩);obtain⟨wf,hwf⟩:∃ wf:World,wf=((W1.setCell ⟨W.heap.size,0,none⟩ (.int .i64 0)).setCell ⟨W.heap.size,1,none⟩ (.int .i64 0)).setCell ⟨W.heap.size,2,none⟩ (.int .i64 0):=⟨_,rfl⟩
 rw[<-hwf];have hbf:=hwf▸Y8 Hbv.out (.int .i64 0) (.int .i64 0) (.int .i64 0);have u0:=(Za hbf).1 0;have u1:=(Za hbf).1 1;have u2:=(Za hbf).1 2;refine bodyPost_ret (v:=.tuple #[.agg #[.int .i64 0,.int .i64 0,.int .i64 0],.bool false]) (by simp[results,Tryz.results32,go_sem,u0,u1,u2]) rfl ⟨rfl,?_⟩;rw[hwf];exact Chg.after Hg1.out (Jm _ _ _ _ _ _ _ _) (fun n hn q=>by omega)
end
section
open Go.RowKit Go.Shelf
variable {wB:Bs} {lo ms:Nat} {vp:Value} {p:GProg} {W W':World} {g:SAd} {s:GM} {l:List GAct} {a:GAct}
theorem Zdc {w:World} {b:Nat} {z0 z1 z2 z3:Value} {t:TypeId} (h:w.heap[b]?=some (.cells #[z0,z1,z2,z3] t (0,0))) (x y z u:Value):((((w.setCell ⟨b,0,none⟩ x).setCell ⟨b,1,none⟩ y).setCell ⟨b,2,none⟩ z).setCell ⟨b,3,none⟩ u).heap[b]?=some (.cells #[x,y,z,u] t (0,0)):=
 Zs (Zs (Zs (Zs h 0 x) 1 y) 2 z) 3 u
theorem chg4 (w:World) (b i j k m:Nat) (x y z u:Value):Chg (fun n=>n=b) w ((((w.setCell ⟨b,i,none⟩ x).setCell ⟨b,j,none⟩ y).setCell ⟨b,k,none⟩ z).setCell ⟨b,m,none⟩ u):=
 (Jm w b i j k x y z).trans (Chg.set (Q:=fun n=>n=b) _ (p:=⟨b,m,none⟩) rfl u) (fun _ _ e=>e)
def Zhm (q:GPt×Nat):Value:=.agg #[.int .i64 q.1.1,.int .i64 q.1.2.1,.int .i64 q.1.2.2,.int .i64 q.2]
theorem Jb (h:Ma wB ms vp W g s):Calls Tryz.prog 40 #[.pointer (some ⟨g.m,0,none⟩)] W fun e w'=>e=.returned (.tuple #[Zhm (if s.did then s.ent else ((0,0,0),0)),.bool s.did])/\W.grownBy w' none:=by
 obtain⟨W1,hW1⟩:∃ W1:World,W1=W.alloc (.cells #[.int .i64 0,.int .i64 0,.int .i64 0,.int .i64 0] 81):=⟨_,rfl⟩
 have hg1:W.grownBy W1 none:=by rw[hW1];exact Lc _ _ _
 have hbv:W1.heap[W.heap.size]?=some (.cells #[.int .i64 0,.int .i64 0,.int .i64 0,.int .i64 0] 81 (0,0)):=by rw[hW1];exact La _ _
 have h1:=h.grow hg1;have m8:W1.cell? ⟨g.m,8,none⟩=some (.bool s.did):=h1.cell 8;have m4:W1.cell? ⟨g.m,4,none⟩=some (.int .i64 s.ent.1.1):=h1.cell 4;have m5:W1.cell? ⟨g.m,5,none⟩=some (.int .i64 s.ent.1.2.1):=h1.cell 5;have m6:W1.cell? ⟨g.m,6,none⟩=some (.int .i64 s.ent.1.2.2):=h1.cell 6;have m7:W1.cell? ⟨g.m,7,none⟩=some (.int .i64 s.ent.2):=h1.cell 7;have b0:=(Za hbv).1 0;have b1:=(Za hbv).1 1;have b2:=(Za hbv).1 2;have b3:=(Za hbv).1 3;have f0:=(Za hbv).2 0;have f1:=(Za hbv).2 1;have f2:=(Za hbv).2 2;have f3:=(Za hbv).2 3;have Hbv:=hid hbv;have Hg1:=hid hg1;clear h h1 hg1 hbv;obtain⟨did,hd⟩:∃ d,d=s.did:=⟨_,rfl⟩
 obtain⟨⟨⟨p0,p1,p2⟩,p3⟩,he⟩:∃ q,q=s.ent:=⟨_,rfl⟩
 rw[<-hd,<-he];rw[<-hd] at m8;rw[<-he] at m4 m5 m6 m7;clear hd he
 cases did with
 |true=>
  go_enter Tryz.func40,Tryz.ntmps40;go_upto_region 1 with (fail)
  rw[<-hW1];clear hW1;go_wp2;obtain⟨wf,hwf⟩:∃ wf:World,wf=(((W1.setCell ⟨W.heap.size,0,none⟩ (.int .i64 p0)).setCell ⟨W.heap.size,1,none⟩ (.int .i64 p1)).setCell ⟨W.heap.size,2,none⟩ (.int .i64 p2)).setCell ⟨W.heap.size,3,none⟩ (.int .i64 p3):=⟨_,rfl⟩
  rw[<-hwf];have hbf:=hwf▸Zdc Hbv.out (.int .i64 p0) (.int .i64 p1) (.int .i64 p2) (.int .i64 p3);have u0:=(Za hbf).1 0;have u1:=(Za hbf).1 1;have u2:=(Za hbf).1 2;have u3:=(Za hbf).1 3;refine bodyPost_ret (v:=.tuple #[Zhm ((p0,p1,p2),p3),.bool true]) (by simp[results,Tryz.results40,go_sem,u0,u1,u2,u3,Zhm]) rfl ⟨rfl,?_⟩;rw[hwf];exact Chg.after Hg1.out (chg4 _ _ _ _ _ _ _ _ _ _) (fun n hn q=>by omega)
 |false=>
  go_enter Tryz.func40,Tryz.ntmps40;go_upto_region 1 with (fail)
  rw[<-hW1];clear hW1;go_wp2;obtain⟨wf,hwf⟩:∃ wf:World,wf=(((W1.setCell ⟨W.heap.size,0,none⟩ (.int .i64 0)).setCell ⟨W.heap.size,1,none⟩ (.int .i64 0)).setCell ⟨W.heap.size,2,none⟩ (.int .i64 0)).setCell ⟨W.heap.size,3,none⟩ (.int .i64 0):=⟨_,rfl⟩
  rw[<-hwf];have hbf:=hwf▸Zdc Hbv.out (.int .i64 0) (.int .i64 0) (.int .i64 0) (.int .i64 0);have u0:=(Za hbf).1 0;have u1:=(Za hbf).1 1;have u2:=(Za hbf).1 2;have u3:=(Za hbf).1 3;refine bodyPost_ret (v:=.tuple #[Zhm ((0,0,0),0),.bool false]) (by simp[results,Tryz.results40,go_sem,u0,u1,u2,u3,Zhm]) rfl ⟨rfl,?_⟩;rw[hwf];exact Chg.after Hg1.out (chg4 _ _ _ _ _ _ _ _ _ _) (fun n hn q=>by omega)
end
section
open Go.RowKit Go.Shelf
variable {wB:Bs} {lo ms:Nat} {vp:Value} {p:GProg} {W W':World} {g:SAd} {s:GM} {l:List GAct} {a:GAct}
theorem Q9 (ha:s.acts=l++[a]) (b:GAct):{ s with acts:=s.acts.set l.length b }=s.setTop b:=by simp[GM.setTop,ha]
theorem Zng {f:Int} {t:Str} (h:0<=(Zag p f t).1):(Zag p f t).2=true:=by
 unfold Zag at h ⊢
 split at h
 ·rename_i h1
  rw[if_pos h1]
  split at h
  ·simp at h
  ·rename_i h2
   rw[if_neg h2]
   split at h
   ·rename_i h3;rw[if_pos h3]
   ·simp at h
 ·simp at h
theorem Zmi (E:StE wB lo ms vp p) (h:Ma wB ms vp W g s) (ha:s.acts=l++[a]) (t:Str) (x:GVal):Calls Tryz.prog 232 #[.pointer (some ⟨g.m,0,none⟩),.string ⟨t.toArray⟩,Yf x] W fun e w'=>e=.returned (.tuple #[])/\Ma wB ms vp w' g (s.setTop (a.put p t x))/\Stp W g w' g:=by
 obtain⟨W1,hW1⟩:∃ W1:World,W1=W.alloc (.cells #[.int .u8 x.kind,.int .i64 x.obj,.int .i64 x.n] 72):=⟨_,rfl⟩
 have hg1:W.grownBy W1 none:=by rw[hW1];exact Lc _ _ _
 have hbx:W1.heap[W.heap.size]?=some (.cells #[.int .u8 x.kind,.int .i64 x.obj,.int .i64 x.n] 72 (0,0)):=by rw[hW1];exact La _ _
 have h1:=h.grow hg1;obtain⟨gb,c,ad,e1,e2,e3,e4,e5,c1,c2,c3⟩:=h1.top ha
 have HSc:=hid (show ∀ W',W1.grownBy W' none->W'.cell? ⟨g.m,0,none⟩=some (.pointer (some ⟨ms,0,none⟩))/\W'.cell? ⟨ad.1,0,none⟩=some (.int .i64 a.pt.1) from fun W' hg=>by
  obtain⟨gb',c',ad',f1,f2,f3,f4,f5,d1,d2,d3⟩:=(h1.grow hg).top ha
  rw[e4] at f4
  cases f4
  exact⟨(h1.grow hg).cell 0,(Za d2).1 0⟩)
 have Ht:=hid (fun (W':World) (hg:W1.grownBy W' none)=>Vo (h1.grow hg) ha e4);have Hv:=hid (fun (W':World) (hg:W1.grownBy W' none)=>Zbw (E.mapAt (h1.grow hg)) (a.pt.1:Int) t)
 have Hl:=hid (show ∀ W':World,W1.grownBy W' none->W'.cell? ⟨ad.1,3,none⟩=some (.map (some ad.2))/\W'.cell? ⟨W.heap.size,0,none⟩=some (.int .u8 x.kind)/\W'.cell? ⟨W.heap.size,1,none⟩=some (.int .i64 x.obj)/\W'.cell? ⟨W.heap.size,2,none⟩=some (.int .i64 x.n)/\
                   (Instr.mapUpdate 147 (.map (some ad.2)) (.int .i64 (Zag p (a.pt.1:Int) t).1) (.agg #[.int .u8 x.kind,.int .i64 x.obj,.int .i64 x.n])).run Tryz.prog W'=.ok () (W'.putObj ad.2 (Z7 encZ Yf (Yz a.vars (Zag p (a.pt.1:Int) t).1 x))) from fun W' hg=>by
                    obtain⟨gb',c',ad',f1,f2,f3,f4,f5,d1,d2,d3⟩:=(h1.grow hg).top ha
                    rw[e4] at f4
                    cases f4
                    have hb:=(hg.block _ (Ze hbx) (by simp)).trans hbx
                    exact⟨(Za d2).1 3,(Za hb).1 0,(Za hb).1 1,(Za hb).1 2,V5 (P:=Tryz.prog) (keyZ Tryz.underlying3) Tryz.underlying147 d3 _ x⟩)
 have He:=hid (show ∀ w2:World,W1.grownBy w2 none->∀ v',Ma wB ms vp (w2.putObj ad.2 (Z7 encZ Yf v')) g (s.setTop { a with vars:=v' })/\Stp W g (w2.putObj ad.2 (Z7 encZ Yf v')) g from fun w2 hg v'=>by
  have h2:=h1.grow hg
  obtain⟨gb',c',ad',f1,f2,f3,f4,f5,d1,d2,d3⟩:=h2.top ha
  rw[e4] at f4
  cases f4
  obtain⟨q1,q2⟩:=h2.setA doObj_ok e4 f5 (x':={ a with vars:=v' }) (W':=w2.putObj ad.2 (Z7 encZ Yf v')) (Chg.turned (Q:=fun n=>n=ad.1\/n=ad.2) (Turned.putObj w2 ad.2 _) (.inr rfl)) ((World.putObj_heap_other (Ko d2 d3)).trans d2) (Xt d3 _)
  rw[Q9 ha] at q1
  exact⟨q1,((Stp.refl W g).grow (Zb hg1 hg)).trans q2⟩)
 have Hk:=hid (show ∀ w2:World,W1.grownBy w2 none->Ma wB ms vp w2 g s/\Stp W g w2 g from fun w2 hg=>⟨h1.grow hg,(Stp.refl W g).grow (Zb hg1 hg)⟩);have Hs:=hid (Q9 ha a)
 have Hse:=hid (show s.setTop a=s by
  rw[<-Q9 ha]
  have:s.acts.set l.length a=s.acts:=by rw[ha];simp
  rw[this])
 obtain⟨q,hq⟩:∃ q,q=Zag p (a.pt.1:Int) t:=⟨_,rfl⟩
 rw[<-hq] at Hv Hl;have hput:a.put p t x=if 0<=q.1 then { a with vars:=Yz a.vars q.1 x } else a:=by rw[hq];rfl
 have hpos:0<=q.1->q.2=true:=fun e=>by rw[hq] at e ⊢;exact Zng e
 have hg:=Lb W1 none;rw[hput];have Hg1:=hid hg1;clear h h1 hg1 hbx E e1 e2 e3 e4 e5 c1 c2 c3 ha hq hput;obtain⟨k,b⟩:=q;simp only at hpos Hl Hv ⊢;have run1:True:=trivial
 by_cases hk:0<=k
 ·obtain rfl:=hpos hk;rw[if_pos hk];clear hpos;unfold Yf;go_enter Tryz.func232,Tryz.ntmps232;go_upto_region 1 with (fail)
  rw[<-hW1];clear hW1;go_region_held3 (fun W'=>W'.cell? ⟨g.m,0,none⟩=some (.pointer (some ⟨ms,0,none⟩))/\W'.cell? ⟨ad.1,0,none⟩=some (.int .i64 a.pt.1)) (first|exact HSc.out _ hg|exact HSc.out _ (Zf hg)) ((first|(go_simp;go_at_call 78;first|(refine (Ht.out _ (Zf hg)).mono ?_;rintro e w1 ⟨rfl,n1,hn1⟩;have hg:=hn1▸Zg (Zf hg) n1;clear hn1)|(refine (Ht.out _ hg).mono ?_;rintro e w1 ⟨rfl,n1,hn1⟩;have hg:=hn1▸Zg hg n1;clear hn1))|(go_simp;go_at_call 34;first|(refine (Hv.out _ (Zf hg)).mono ?_;rintro e w1 ⟨rfl,hg1⟩;have hg:=Zb (Zf hg) hg1;clear hg1)|(refine (Hv.out _ hg).mono ?_;rintro e w1 ⟨rfl,hg1⟩;have hg:=Zb hg hg1;clear hg1))));obtain⟨d3,x0,x1,x2,hrun⟩:=Hl.out _ hg;have Hg:=hid hg;clear hg hrun d3;go_upto_region 3 with (fail)
  go_region_law ((go_simp;go_at_call 78;refine (Ht.out _ (Zf Hg.out)).mono ?_;rintro e w2 ⟨rfl,n2,hn2⟩;have hg2:=hn2▸Zg (Zf Hg.out) n2;obtain⟨d3,y0,y1,y2,hrun⟩:=Hl.out _ hg2;have Hg2:=hid hg2;clear hn2 hg2))
  all_goals (go_wp2_with fail;go_end0)
  all_goals exact⟨rfl,He.out _ Hg2.out _⟩
 ·rw[if_neg hk];unfold Yf;go_enter Tryz.func232,Tryz.ntmps232;go_upto_region 1 with (fail)
  rw[<-hW1];clear hW1;go_region_held3 (fun W'=>W'.cell? ⟨g.m,0,none⟩=some (.pointer (some ⟨ms,0,none⟩))/\W'.cell? ⟨ad.1,0,none⟩=some (.int .i64 a.pt.1)) (first|exact HSc.out _ hg|exact HSc.out _ (Zf hg)) ((first|(go_simp;go_at_call 78;first|(refine (Ht.out _ (Zf hg)).mono ?_;rintro e w1 ⟨rfl,n1,hn1⟩;have hg:=hn1▸Zg (Zf hg) n1;clear hn1)|(refine (Ht.out _ hg).mono ?_;rintro e w1 ⟨rfl,n1,hn1⟩;have hg:=hn1▸Zg hg n1;clear hn1))|(go_simp;go_at_call 34;first|(refine (Hv.out _ (Zf hg)).mono ?_;rintro e w1 ⟨rfl,hg1⟩;have hg:=Zb (Zf hg) hg1;clear hg1)|(refine (Hv.out _ hg).mono ?_;rintro e w1 ⟨rfl,hg1⟩;have hg:=Zb hg hg1;clear hg1))));have Hg:=hid hg;clear hg hpos
  cases b with
  |true=>
   go_wp2_with fail;go_end0;exact⟨rfl,by rw[Hse.out];exact (Hk.out _ Hg.out).1,(Hk.out _ Hg.out).2⟩
  |false=>
   go_wp2_with fail;go_end0;exact⟨rfl,by rw[Hse.out];exact (Hk.out _ Hg.out).1,(Hk.out _ Hg.out).2⟩
end
section
open Go.RowKit Go.Shelf
variable {wB:Bs} {lo ms:Nat} {vp:Value} {p:GProg} {W W':World} {g:SAd} {s:GM} {l:List GAct} {a:GAct}
theorem MaAt.stopAt (h:Ma wB ms vp W g s) (st:Nat):Ma wB ms vp (W.setCell ⟨g.m,3,none⟩ (.int .u8 st)) g { s with stop:=st }/\Stp W g (W.setCell ⟨g.m,3,none⟩ (.int .u8 st)) g:=
 h.setM doObj_ok.1 (s':={ s with stop:=st }) (ch:=g.ch) rfl rfl (Chg.set (Q:=fun n=>n=g.m) W (p:=⟨g.m,3,none⟩) rfl _) (Zs h.blk 3 _)
theorem Vk (E:StE wB lo ms vp p) (h:Ma wB ms vp W g s) (ha:s.acts=l++[a]) (hat:a.pt.2.2<=1000000) (t:Str) (x:GVal) (st:Nat):Calls Tryz.prog 175 #[.pointer (some ⟨g.m,0,none⟩),.string ⟨t.toArray⟩,Yf x,.int .u8 st] W fun e w'=>e=.returned (.tuple #[])/\Ma wB ms vp w' g (s.next p t x st)/\Stp W g w' g:=by
 obtain⟨W1,hW1⟩:∃ W1:World,W1=W.alloc (.cells #[.int .u8 x.kind,.int .i64 x.obj,.int .i64 x.n] 72):=⟨_,rfl⟩
 have hg1:W.grownBy W1 none:=by rw[hW1];exact Lc _ _ _
 have hbx:W1.heap[W.heap.size]?=some (.cells #[.int .u8 x.kind,.int .i64 x.obj,.int .i64 x.n] 72 (0,0)):=by rw[hW1];exact La _ _
 have h1:=h.grow hg1;have x0:W1.cell? ⟨W.heap.size,0,none⟩=some (.int .u8 x.kind):=(Za hbx).1 0;have x1:W1.cell? ⟨W.heap.size,1,none⟩=some (.int .i64 x.obj):=(Za hbx).1 1;have x2:W1.cell? ⟨W.heap.size,2,none⟩=some (.int .i64 x.n):=(Za hbx).1 2;unfold GM.next
 by_cases h0:st=0
 ·rw[if_pos h0,X1 ha];have hset:=Zmi E h1 ha t x;have hst0:=(Stp.refl W g).grow hg1;obtain⟨gb,c,ad,e1,e2,e3,e4,e5,c1,c2,c3⟩:=h1.top ha;have ha2:=X0 (a.put p t x) ha
  have Hk:=hid (show ∀ w1:World,Ma wB ms vp w1 g (s.setTop (a.put p t x))->Stp W1 g w1 g->∀ n,w1.cell? ⟨ad.1,2,none⟩=some (.int .i64 a.pt.2.2)/\w1.frozen? ⟨ad.1,2,none⟩=false/\Calls Tryz.prog 78 #[.pointer (some ⟨g.m,0,none⟩)] w1 (fun e w'=>e=.returned (.pointer (some ⟨ad.1,0,none⟩))/\∃ n,w'=w1.drewN n)/\
                    Ma wB ms vp ((w1.drewN n).setCell ⟨ad.1,2,none⟩ (.int .i64 ((a.pt.2.2:Int)+1))) g (s.setTop (a.put p t x).on)/\Stp W g ((w1.drewN n).setCell ⟨ad.1,2,none⟩ (.int .i64 ((a.pt.2.2:Int)+1))) g from fun w1 m1 s1 n=>by
                    obtain⟨gb',c',ad',f1,f2,f3,f4,f5,d1,d2,d3⟩:=m1.top ha2
                    rw[e4] at f4
                    cases f4
                    have hp:(a.put p t x).pt=a.pt:=V3 p a t x
                    have d0:w1.cell? ⟨ad.1,2,none⟩=some (.int .i64 (a.put p t x).pt.2.2):=(Za d2).1 2
                    rw[hp] at d0
                    have hgd:w1.grownBy (w1.drewN n) none:=Zg (Lb _ _) n
                    have m2:=m1.grow hgd
                    obtain⟨q1,q2⟩:=m2.setA doObj_ok e4 f5 (x':=(a.put p t x).on) (W':=(w1.drewN n).setCell ⟨ad.1,2,none⟩ (.int .i64 ((a.pt.2.2:Int)+1))) (Chg.set (Q:=fun n=>n=ad.1\/n=ad.2) (w1.drewN n) (p:=⟨ad.1,2,none⟩) (.inl rfl) _)
                     (by
                      have:=Zs (w:=w1.drewN n) d2 2 (.int .i64 ((a.pt.2.2:Int)+1))
                      unfold Zaq at this ⊢
                      simpa [GAct.on,hp] using this)
                     ((Below.heap_setCell _ _ _ _ (Ko d2 d3).symm).trans d3)
                    rw[Q9 ha2] at q1
                    refine⟨d0,(Za d2).2 2,Vo m1 ha2 e4,?_,(hst0.trans (s1.grow hgd)).trans q2⟩
                    have:(s.setTop (a.put p t x)).setTop (a.put p t x).on=s.setTop (a.put p t x).on:=by simp[GM.setTop]
                    rw[<-this]
                    exact q1)
  have hw:IntKind.i64.wrap ((a.pt.2.2:Int)+1)=(a.pt.2.2:Int)+1:=by rw[IntKind.wrap_i64];omega
  subst h0;clear h h1 hbx E e1 e2 e3 e4 e5 c1 c2 c3 ha hat hst0 ha2 hg1;unfold Yf at hset ⊢;go_enter Tryz.func175,Tryz.ntmps175;go_upto_region 1 with (fail)
  rw[<-hW1];clear hW1;go_upto_region 4 with (go_at_call 232;refine hset.mono ?_;rintro e w1 ⟨rfl,hm1,hs1⟩)
  clear x0 x1 x2 hset;obtain⟨d0,f0,ht,-⟩:=Hk.out w1 hm1 hs1 0;have Hq:=hid (fun n=>(Hk.out w1 hm1 hs1 n).2.2.2);clear hm1 hs1 Hk;go_wp2_with (go_at_call 78;refine ht.mono ?_;rintro e w2 ⟨rfl,n2,rfl⟩);go_end0;exact⟨rfl,Hq.out n2⟩
 ·rw[if_neg h0];have h0':¬ (st:Int)=0:=by omega
  obtain⟨q1,q2⟩:=h1.stopAt st;have hst0:=(Stp.refl W g).grow hg1;have m3:W1.cell? ⟨g.m,3,none⟩=some (.int .u8 s.stop):=h1.cell 3;have f3:=(Za h1.blk).2 3;have Hq:=hid (And.intro q1 (hst0.trans q2));clear h h1 hbx E ha hat h0 q1 q2 hst0 hg1;unfold Yf;go_enter Tryz.func175,Tryz.ntmps175;go_upto_region 1 with (fail)
  rw[<-hW1];clear hW1;go_wp2_with fail
  (try simp only[Exit.inBlock,Exit.then])
  refine bodyPost_ret (results_none rfl _ _ _) rfl ?_;exact⟨rfl,Hq.out⟩
end

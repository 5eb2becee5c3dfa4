/- The contract of cfg. Conditions in it. -/
import Derived.Test.YtlcogjllnbfneaaGreatEGrb
set_option maxHeartbeats 4000000
set_option maxRecDepth 100000
set_option linter.all false
namespace Go.Proofs.YtlcogjllnbfneaaGreat
open Lib(hid)
open Go.RowKit Go.Shelf
attribute [local go_sem] Oper.semAt_some
theorem Jl {w:World} {ops:Array Oper} {rest:List Oper} {o:Oper} {a:Act} {Q:Exit->Act->World->Prop} (hgd:o.guard=none) (s x:Operand)
  (ho:o.op=.call { callee:=.builtin .append,args:= #[s,x],argTypes:= #[84,84] })
  (base:Nat) (v:Value) (l:List Nat) (hs:a.eval s=v) (hown:w.ownsRow base 3 1 v l.length (l.map Z4))
  (b:Nat) (u:Nat) (hx:a.eval x=.slice (some ⟨b,0,none⟩) 1 1) (hc:w.cell? ⟨b,0,none⟩=some (.int .i64 u))
  (hlen:l.length<=8796093022208) (hbase:base<=w.heap.size)
  (h:∀ g c w',w'.ownsRow base 3 1 (.slice (some ⟨g,0,none⟩) (l.length+1) c) (l++[u]).length ((l++[u]).map Z4)->w.grownBy w' v.ownBlock->(v.ownBlock=some g\/g=w.heap.size)->wpList Tryz.prog ops Q rest (a.put o.dst (.slice (some ⟨g,0,none⟩) (l.length+1) c)) w'):
  wpList Tryz.prog ops Q (o::rest) a w:=
 Jh hgd s x 84 ho base 3 (.int .i64 0) 8 Tryz.underlying84 Zjx rfl v _ l.length hs hown b (Z4 u) rfl hx hc (by unfold maxLen;omega) (by omega) hbase
  fun g c w' h1 h2 h3=>h g c w' (by rw[List.length_append,List.map_append];exact h1) h2 h3
structure OfI (wL:World) (Mb:Nat) (bs:List GBlk) {w0:World} {B:Nat} (pre:List (Bk3 w0 B bs)) (W:World):Prop where
 map:W.heap[Mb]?=some (Z7 encS Z4 (atm bs (pre.map (·.1.1))))
 gr:wL.grownBy W (some Mb)
theorem Zqn {wL:World} {Mb:Nat} {bs:List GBlk} {w0:World} {B:Nat} (hM:Mb<wL.heap.size):OwnFrom wL.heap.size (OfI wL Mb bs (w0:=w0) (B:=B)):=fun pre W W' row hs hg hr=>
 ⟨(hg.block Mb (Ze hs.map) (fun e=>by have:=(hr Mb e.symm).1;omega)).trans hs.map,Y3 hs.gr hg (fun r e=>(hr r e).1)⟩
theorem Zmy (W:World) (o:Obj) {k:Nat} (hk:k<W.heap.size):(W.alloc o).heap[k]?=W.heap[k]?:=Below.heap_alloc W o k hk
def OfOut (bs:List GBlk) (w:World) (e:Ending) (w':World):Prop:=∃ S S2 base base2,e=.returned (.tuple #[.agg #[.slice (some ⟨S,0,none⟩) bs.length bs.length,.slice (some ⟨S2,0,none⟩) bs.length bs.length],.int .i64 0])/\
 w.heap.size<=S/\w.heap.size<=S2/\OwnG base w' S (Zv bs)/\OwnG base2 w' S2 (Xx (Zv bs))/\Below w.heap.size w w'
structure OfS (w W:World) (L:Gph) (wr:World):Prop where
 same:Betw w.heap.size W.heap.size W wr
 low:Below w.heap.size w wr
 own:OwnG (W.heap.size+1) wr W.heap.size L
theorem OfS.grow {w W wr wr':World} {L:Gph} (h:OfS w W L wr) (hg:wr.grownBy wr' none):OfS w W L wr':=
 ⟨h.same.grown hg (by have:=h.own.lt;omega) (fun r e=>by cases e),Z1 h.low hg (by have:=h.low.size;omega) (fun r e=>by cases e),h.own.kept hg⟩
theorem OfS.put {w W wr w':World} {L:Gph} {k:Nat} {l l':List Nat} {v v':Value} (h:OfS w W L wr) (hWw:w.heap.size<=W.heap.size) (hk:L[k]?=some l) (hv:wr.cell? ⟨W.heap.size,k,none⟩=some v)
  (hg:wr.grownBy w' v.ownBlock) (ho:w'.ownsRow (W.heap.size+1) 3 1 v' l'.length (l'.map Z4)) (hv':v'.ownBlock=v.ownBlock\/∀ b,v'.ownBlock=some b->wr.heap.size<=b) (hn:v'.oneCell'=true):
  OfS w W (L.set k l') (w'.setCell ⟨W.heap.size,k,none⟩ v'):=by
 obtain⟨h1,h2⟩:=h.own.put hk hv hg ho hv' hn;obtain⟨u,hu,_,hu3⟩:=h.own.read hk;rw[hv] at hu
 cases hu
 have hlt:=hu3.lt;have hsz:=h.own.lt;have hs':=hg.size;refine⟨(h.same.grown hg (by omega) (fun r e=>.inr (by have:=(hlt r e).1;omega))).grown h2 (by omega) (fun r e=>by cases e;exact .inr (Lf _)),?_,h1⟩;exact (Z1 h.low hg (by have:=h.low.size;omega) (fun r e=>by have:=(hlt r e).1;omega)).setCell hWw _
theorem of_any (f:GFun) (vp vb:Value) (B:Nat) (w:World) (hB:B<=w.heap.size) (h:FunAt w B f vp vb) (hok:OfOk f.bk9):
  Calls Tryz.prog 87 #[.agg #[.string ⟨f.name.toArray⟩,vp,vb]] w fun e w'=>OfOut f.bk9 w e w':=by
 have hn:=hok.len;have hmk:=Zbd f.bk9.length hn;obtain⟨A1,d1,rfl,m1,_,_,_⟩:=h.params.open_;obtain⟨A2,d2,rfl,m2,_,_,hA⟩:=h.bk9.open_;have hmm:∀ w:World,(Instr.makeMap 164 none).run Tryz.prog w=.ok (.map (some w.heap.size)) (w.alloc (Z7 encS Z4 [])):= @run_makeMap Tryz.prog 164;have hbk:=fun W=>Zjd A2 f.bk9.length d2 W
 refine (callsIn_wide (n:=8)).1 ?_;refine callsIn_of_wp_marks Tryz.func87 rfl trivial ?_ rfl;refine wpIn_wide.2 ?_;simp only[Tryz.ntmps87,List.size_toArray,List.length_cons,List.length_nil,Nat.reduceAdd,Nat.reduceSub,Array.replicate_succ,Array.replicate_zero,List.push_toArray,List.append_toArray,List.nil_append,List.cons_append];go_wp2_with (go_at_call 123;refine (hbk _).mono ?_;rintro e w' ⟨rfl,rfl⟩);obtain⟨wL,hwL⟩:∃ wL:World,wL=((((w.alloc (.cells #[.string ⟨f.name.toArray⟩,.slice A1 f.params.length d1,.slice A2 f.bk9.length d2] 37)).alloc (.cells #[.slice none 0 0,.slice none 0 0] 143)).alloc (Z7 encS Z4 [])).alloc (.cells #[.map (some (w.heap.size+1+1))] 164)).alloc (.cells #[.slice A2 f.bk9.length d2] 35):=⟨_,rfl⟩
 have hsL:wL.heap.size=w.heap.size+5:=by rw[hwL];simp
 have hbL:Below w.heap.size w wL:=by
  rw[hwL];exact (((((Below.refl w.heap.size w).alloc (Lf _) _).alloc (by simp) _).alloc (by simp;omega) _).alloc (by simp;omega) _).alloc (by simp;omega) _
 have hf0:wL.heap[w.heap.size]?=some (.cells #[.string ⟨f.name.toArray⟩,.slice A1 f.params.length d1,.slice A2 f.bk9.length d2] 37 (0,0)):=by
  rw[hwL];exact Zc (Zc (Zc (Zc (La w _) _) _) _) _
 have hf1:wL.heap[w.heap.size+1]?=some (.cells #[.slice none 0 0,.slice none 0 0] 143 (0,0)):=by
  have:=La (w.alloc (.cells #[.string ⟨f.name.toArray⟩,.slice A1 f.params.length d1,.slice A2 f.bk9.length d2] 37)) (.cells #[.slice none 0 0,.slice none 0 0] 143);simp only[World.size_alloc] at this;rw[hwL];exact Zc (Zc (Zc this _) _) _
 have hf2:wL.heap[w.heap.size+1+1]?=some (Z7 encS Z4 []):=by
  have:=La ((w.alloc (.cells #[.string ⟨f.name.toArray⟩,.slice A1 f.params.length d1,.slice A2 f.bk9.length d2] 37)).alloc (.cells #[.slice none 0 0,.slice none 0 0] 143)) (Z7 encS Z4 []);simp only[World.size_alloc] at this;rw[hwL];exact Zc (Zc this _) _
 have hf3:wL.heap[w.heap.size+1+1+1]?=some (.cells #[.map (some (w.heap.size+1+1))] 164 (0,0)):=by
  have:=La (((w.alloc (.cells #[.string ⟨f.name.toArray⟩,.slice A1 f.params.length d1,.slice A2 f.bk9.length d2] 37)).alloc (.cells #[.slice none 0 0,.slice none 0 0] 143)).alloc (Z7 encS Z4 [])) (.cells #[.map (some (w.heap.size+1+1))] 164);simp only[World.size_alloc] at this;rw[hwL];exact Zc this _
 have hf4:wL.heap[w.heap.size+1+1+1+1]?=some (.cells #[.slice A2 f.bk9.length d2] 35 (0,0)):=by
  have:=La ((((w.alloc (.cells #[.string ⟨f.name.toArray⟩,.slice A1 f.params.length d1,.slice A2 f.bk9.length d2] 37)).alloc (.cells #[.slice none 0 0,.slice none 0 0] 143)).alloc (Z7 encS Z4 [])).alloc (.cells #[.map (some (w.heap.size+1+1))] 164)) (.cells #[.slice A2 f.bk9.length d2] 35);simp only[World.size_alloc] at this;rw[hwL];exact this
 rw[<-hwL];clear hwL hmm hbk
 refine (wpIn_wide (n:=8)).1 (wpIn_rangeFunc_ownH rfl (by omega) (gf:=177) (lb:= #[.pointer (some ⟨w.heap.size+1+1+1+1,0,none⟩)]) rfl trivial (enters_of Tryz.func177 (by kernel_rfl) rfl)
                              (Zfg 7 (by omega) (w.heap.size+1+1+1+1) B f.bk9 (.slice A2 f.bk9.length d2) w hA wL (hbL.mono hB) (by omega) (by omega) ((Za hf4).1 0)) Yio (kpB_b (by omega) (by omega)) (Below.refl _ _) (fun _=>rfl)
                              (OfI wL (w.heap.size+1+1) f.bk9) (fun _ _ _=>False) (Zqn (by omega)) (fun c=>fun _ _ _ _ h _ _=>h)
                              ⟨hf2,Lb _ _⟩
                              (fun x a' W=>∃ b6,wL.heap.size<=b6/\W.heap[b6]?=some (.cells #[.string ⟨x.1.2.1.label.toArray⟩,x.1.2.2] 39 (0,0))/\a'={ tmps:= #[.agg #[.string ⟨f.name.toArray⟩,.slice A1 f.params.length d1,.slice A2 f.bk9.length d2],.pointer (some ⟨w.heap.size,0,none⟩),.pointer (some ⟨w.heap.size+1,0,none⟩),.int .i64 0,.pointer (some ⟨w.heap.size+1+1+1,0,none⟩),.int .i64 x.1.1,.pointer (some ⟨b6,0,none⟩),undef,undef,undef,undef,undef,undef,undef,undef,.map (some (w.heap.size+1+1)),.pointer (some ⟨w.heap.size,2,none⟩),.slice A2 f.bk9.length d2,.func (.func 177) #[] #[.pointer (some ⟨w.heap.size+1+1+1+1,0,none⟩)],.int .i64 x.1.1,.agg #[.string ⟨x.1.2.1.label.toArray⟩,x.1.2.2],undef,undef,undef,undef,undef,undef,undef,undef,undef,undef,undef,undef,undef,undef,undef,undef,undef,undef,undef,undef,undef,undef,undef,undef,undef,undef,undef,undef,undef,undef,undef,undef,undef,undef,undef,undef,undef,undef,undef,undef,undef,undef,undef,undef,undef,undef,undef,undef,undef,undef,undef,undef,undef,undef,undef,undef,undef,undef,undef,undef,undef,undef,undef,undef,undef,undef,undef,undef,undef,undef,undef,undef,undef,undef,undef,undef,undef,undef,undef,undef,undef,undef],defers:=[] })
                              ?hAx ?assign ?body ?done ?stop)
 case hAx=>
  rintro x a' _ X Y row hs hg hr;obtain⟨b6,h1,h2,h3⟩:=hs
  exact⟨b6,h1,(hg.block b6 (Ze h2) (fun e=>by
   obtain⟨_,o,ho,hc⟩:=hr b6 e.symm
   rw[h2] at ho
   cases ho
   cases hc)).trans h2,h3⟩
 case assign=>
  rintro l pre ⟨⟨i,y,vc⟩,hi,hm⟩ W K hI hK;have hi':BlkAt w B y vc:=hi;obtain⟨A5,d5,q5,_,_,_,_⟩:=hi'.code.open_;subst q5;have hIs:=hI.gr.size;have hIown:=Zqn (bs:=f.bk9) (w0:=w) (B:=B) (wL:=wL) (Mb:=w.heap.size+1+1) (by omega);simp only[encK];gi_wp2;have h6:=La W (.cells #[.string ⟨y.label.toArray⟩,.slice A5 y.code.length d5] 39);exact hK _ _ ((KeepsOthers.alloc _ _).from _) ⟨(Below.refl B W).alloc (by omega) _,Zmy _ _ (by omega)⟩
   (hIown pre W _ none hI (Lc W _ none) (fun r e=>by cases e)) ⟨W.heap.size,by omega,h6,rfl⟩
 case body=>
  rintro l pre ⟨⟨i,y,vc⟩,hi,hm⟩ a' W hl hrl hI ⟨b6,h6,hc6,rfl⟩ hlt;have hi':BlkAt w B y vc:=hi;obtain⟨A5,d5,q5,_,_,_,_⟩:=hi'.code.open_;subst q5;have hrun:=V5 (P:=Tryz.prog) (Zbr Tryz.underlying9) Tryz.underlying164 hI.map y.label i;simp only[encS,Z4] at hrun;obtain⟨k1,k2⟩:=Za hc6;have ht:W.cell? ⟨w.heap.size+1+1+1,0,none⟩=some (.map (some (w.heap.size+1+1))):=(Za ((hI.gr.block _ (by omega) (by simp)).trans hf3)).1 0;have HI:=hid hI;have Hc6:=hid hc6;clear hI hc6 hf0 hf1 hf2 hf3 hf4 hbL;gi_wp2;have hI:=HI.out;have hM:=Xt hI.map (Z7 encS Z4 (Yz (atm f.bk9 (pre.map (·.1.1))) y.label i));have hlab:Yo f.bk9 i=y.label:=by
   have hm':f.bk9[i]?=some y:=hm;simp[Yo,hm']
  refine⟨⟨by simp[World.putObj],fun k o hk ho _=>(World.putObj_heap_other (by omega)).trans ho⟩,⟨(Turned.putObj W _ _).below (Below.refl B W) (by omega),World.putObj_heap_other (by omega)⟩,⟨?_,?_⟩⟩
  ·rw[List.map_append,List.map_cons,List.map_nil,Zkw,hlab];exact hM
  ·exact (Turned.putObj W _ _).grownRow hI.gr
 case done=>
  rintro D xs W hD hS hI hK;have hgL:=hI.gr;have hsW:=hgL.size;have hW0:=(hgL.block _ (by omega) (by simp;try omega)).trans hf0;have hW1:=(hgL.block _ (by omega) (by simp;try omega)).trans hf1;have hW3:=(hgL.block _ (by omega) (by simp;try omega)).trans hf3;have hW2:W.heap[w.heap.size+1+1]?=some (Z7 encS Z4 (atm f.bk9 (Vz f.bk9.length f.bk9.length))):=by
   have:=hI.map
   rwa [hS] at this
  have hbW:Below w.heap.size w W:=Z1 hbL hgL (by omega) (fun r e=>by cases e;omega);have hfc:W.cell? ⟨w.heap.size,2,none⟩=some (.slice A2 f.bk9.length d2):=(Za hW0).1 2;have HA:=hid hA;have Hok:=hid hok;have HW:=hid (show W.heap[w.heap.size+1]?=_/\W.heap[w.heap.size+1+1]?=_/\W.heap[w.heap.size+1+1+1]?=_ from ⟨hW1,hW2,hW3⟩);have HK:=hid hK;have hDl:=Ze hK;have HbW:=hid hbW;have hs0:w.heap.size+5<=W.heap.size:=by omega
  have hDw:w.heap.size+5<=D:=by omega
  have hl1:w.heap.size<W.heap.size:=by omega
  have hl2:w.heap.size≠W.heap.size:=by omega
  clear hI hf0 hf1 hf2 hf3 hf4 hbL hA hok hgL hW0 hW1 hW2 hW3 hbW hS hK hsW hsL;go_wp2_with fail;have h0:OfS w W ((Zv f.bk9).take 0++List.replicate (f.bk9.length-0) []) (W.alloc (.cells (Array.replicate f.bk9.length (.slice none 0 0)) 84)):=by
   refine⟨fun k h1 h2=>Below.heap_alloc W _ k h2,HbW.out.alloc (by omega) _,?_⟩;have:=OwnG.made W f.bk9.length (W.heap.size+1) (by omega);simpa using this
  clear hmk hfc;obtain⟨wS,hwS⟩:∃ wS:World,wS=W.alloc (.cells (Array.replicate f.bk9.length (.slice none 0 0)) 84):=⟨_,rfl⟩
  rw[<-hwS] at h0 ⊢;clear hwS;go_loopw [32] (fun s8 wr=>∃ k:Nat,k<=f.bk9.length/\s8=.int .i64 k/\Hid (OfS w W ((Zv f.bk9).take k++List.replicate (f.bk9.length-k) []) wr)) (fun s8 _=>f.bk9.length-(intOf s8).toNat)
  case atStart=>exact⟨0,Ln _,rfl,h0⟩
  case round=>
   obtain⟨k,hkl,rfl,hI⟩:=hrel;clear h0;have hlow:=hI.out.low;have hsz:=hI.out.own.lt
   by_cases hl:k<f.bk9.length
   ·obtain⟨y,b1,off1,hy,rfl,hbB1,hr1⟩:=HA.out.at_ hl;obtain⟨A5,d5,hyy,m5,e0,e1⟩:=Yg hr1;have hym:y∈f.bk9:=Ll hy;have hne:=Hok.out.code y hym;obtain⟨m,hm⟩:∃ m,y.code.length=m+1:=⟨y.code.length-1,by have:=List.length_pos_iff.2 hne;omega⟩
    obtain⟨z,b3,off3,hz,rfl,hbB3,hr3⟩:=hyy.code.at_ (show m<y.code.length by omega);obtain⟨A6,d6,A7,d7,hzz,m6,m7,g0,g1,g2,g3,g4,g5,g6,g7⟩:=Yw hr3;have hlast:Y7 y=z:=by
     unfold Y7;rw[List.getLastD_eq_getLast?,List.getLast?_eq_getElem?,hm,Nat.add_sub_cancel,hz];rfl
    have hop:=Hok.out.op y hym;rw[hlast] at hop;have hbn1:b1≠wr.heap.size:=by omega
    have hbn3:b3≠wr.heap.size:=by omega
    have hbl1:b1<wr.heap.size:=by omega
    have hbl3:b3<wr.heap.size:=by omega
    replace e0:=cur hlow (by omega) e0;replace e1:=cur hlow (by omega) e1;replace g0:=cur hlow (by omega) g0;replace g1:=cur hlow (by omega) g1;replace g2:=cur hlow (by omega) g2;replace g3:=cur hlow (by omega) g3;replace g4:=cur hlow (by omega) g4;replace g5:=cur hlow (by omega) g5;replace g6:=cur hlow (by omega) g6;replace g7:=cur hlow (by omega) g7;have Hy:=hid hy;have Hz:=hid hz;have Hlast:=hid hlast;have Hzz:=hid hzz;have hd5:((m:Int)+1 == 0)=false:=beq_eq_false_iff_ne.2 (by omega);have hd6:decide (m<m+1)=true:=by simp
    have hI2:=hI;clear hr1 hr3 hy hz hlast hzz hyy hlow hI;rw[hm] at e1;go_upto_region 13 with (fail)
    obtain⟨w5,hw5⟩:∃ w5:World,w5=(wr.alloc (.cells #[.string ⟨y.label.toArray⟩,.slice (some ⟨b3,off3,none⟩) (m+1) d5] 39)).alloc (.cells #[.int .u8 z.op,.string ⟨z.dst.toArray⟩,.string ⟨z.a.toArray⟩,.string ⟨z.b.toArray⟩,.int .i64 z.n,.string ⟨z.fn.toArray⟩,.slice A6 z.args.length d6,.slice A7 z.lb9.length d7] 25):=⟨_,rfl⟩
    have hg5:wr.grownBy w5 none:=by rw[hw5];exact Zd (Lc wr _ none) _
    have h5:w5.heap[wr.heap.size+1]?=some (.cells #[.int .u8 z.op,.string ⟨z.dst.toArray⟩,.string ⟨z.a.toArray⟩,.string ⟨z.b.toArray⟩,.int .i64 z.n,.string ⟨z.fn.toArray⟩,.slice A6 z.args.length d6,.slice A7 z.lb9.length d7] 25 (0,0)):=by
     have:=La (wr.alloc (.cells #[.string ⟨y.label.toArray⟩,.slice (some ⟨b3,off3,none⟩) (m+1) d5] 39)) (.cells #[.int .u8 z.op,.string ⟨z.dst.toArray⟩,.string ⟨z.a.toArray⟩,.string ⟨z.b.toArray⟩,.int .i64 z.n,.string ⟨z.fn.toArray⟩,.slice A6 z.args.length d6,.slice A7 z.lb9.length d7] 25);simp only[World.size_alloc] at this;rw[hw5];exact this
    rw[<-hw5];have H5:=hid (hI2.out.grow hg5);have i0:w5.cell? ⟨wr.heap.size+1,0,none⟩=some (.int .u8 z.op):=(Za h5).1 0;have i7:w5.cell? ⟨wr.heap.size+1,7,none⟩=some (.slice A7 z.lb9.length d7):=(Za h5).1 7;clear hw5 hg5 h5 g0 g1 g2 g3 g4 g5 g6 g7 e0 e1 hd5 hd6 hbn1 hbn3 hbl1 hbl3;have hkL:((Zv f.bk9).take k++List.replicate (f.bk9.length-k) [])[k]?=some []:=by
     have:=Jg (g:=Zv f.bk9) (z:=([]:List Nat)) (k:=k) (by rw[Zr];exact hl)
     rwa [Zr] at this
    have HkL:=hid hkL;clear hkL;obtain⟨Lk,hLk⟩:∃ Lk,Lk=((Zv f.bk9).take k++List.replicate (f.bk9.length-k) []):=⟨_,rfl⟩
    rw[<-hLk] at H5 HkL;have HLk:=hid hLk;clear hLk
    rcases hop with hop|hop|hop
    ·
     have hL9:=Hlast.out;have hlb:=Hzz.out.lb9;have hlle:=Hzz.out.labelsLe;have hlab:=Hok.out.lab y (Ll Hy.out) (by rw[hL9,hop];decide);rw[hL9] at hlab
     have Hput:=hid (show Lk.set k (X3 (Xp (z.lb9.map fun s=>(Yd f.bk9 s).getD 0)))=(Zv f.bk9).take (k+1)++List.replicate (f.bk9.length-(k+1)) [] by
      have h1:(Zv f.bk9)[k]?=some (X3 (Xp (z.lb9.map fun s=>(Yd f.bk9 s).getD 0))):=by
       rw[Zv,List.getElem?_map,Hy.out]
       simp[J0,hL9,hop,Zfy]
      have:=Qp (z:=([]:List Nat)) h1
      rw[Zr] at this
      rw[HLk.out]
      exact this)
     have HLb:=hid hlb;have Hlab:=hid hlab;have hwr:=H5.out.own.lt;rw[hop] at i0;clear hL9 hop hlb hlab;have hkk:k<Lk.length:=(Le HkL.out).1
     have H50:Hid (OfS w W (Lk.set k ((z.lb9.take 0).map fun s=>(Yd f.bk9 s).getD 0)) w5):=hid (by
      have e:Lk.set k ((z.lb9.take 0).map fun s=>(Yd f.bk9 s).getD 0)=Lk:=by
       apply List.ext_getElem?
       intro i
       by_cases hi:k=i
       ·subst hi;rw[HkL.out];simp[hkk]
       ·simp[List.getElem?_set_ne hi]
      rw[e];exact H5.out)
     clear H5;go_wp2_with fail;go_loopw [59] (fun s8 wr=>∃ j:Nat,j<=z.lb9.length/\s8=.int .i64 j/\Hid (OfS w W (Lk.set k ((z.lb9.take j).map fun s=>(Yd f.bk9 s).getD 0)) wr)) (fun s8 _=>z.lb9.length-(intOf s8).toNat)
     case atStart=>exact⟨0,Ln _,rfl,H50⟩
     case round=>
      obtain⟨j,hjl,rfl,hJ⟩:=hrel;clear H50 i0 i7
      by_cases hl2:j<z.lb9.length
      ·obtain⟨s,b7,off7,hs,rfl,hb7,hr7⟩:=HLb.out.at1 hl2;obtain⟨n,hn'⟩:=Hlab.out s (Ll hs);have hnlt:=V9 hn';have hlow:=hJ.out.low;have hwq:=hJ.out.own.lt;have c7:=cur hlow (by omega) hr7.1;have hM:wr.heap[w.heap.size+1+1]?=some (Z7 encS Z4 (atm f.bk9 (Vz f.bk9.length f.bk9.length))):=(hJ.out.same _ (by omega) (by omega)).trans HW.out.2.1;have hT4:wr.cell? ⟨w.heap.size+1+1+1,0,none⟩=some (.map (some (w.heap.size+1+1))):=(Za ((hJ.out.same _ (by omega) (by omega)).trans HW.out.2.2)).1 0;have hrun:=Vl (P:=Tryz.prog) (Zbr Tryz.underlying9) Tryz.underlying164 hM s (z:=.int .i64 0) (by kernel_rfl);rw[Zpx,hn'] at hrun;simp only[encS,Z4,Option.isSome] at hrun;obtain⟨l,hl3⟩:∃ l,l=((z.lb9.take j).map fun s=>(Yd f.bk9 s).getD 0):=⟨_,rfl⟩
       have hll:l.length=j:=by rw[hl3];simp;omega
       have hsucc:l++[n]=((z.lb9.take (j+1)).map fun s=>(Yd f.bk9 s).getD 0):=by
        rw[hl3,List.take_add_one,hs];simp[hn']
       rw[<-hl3] at hJ;have hget:(Lk.set k l)[k]?=some l:=by simp[hkk]
       obtain⟨vR,cR,fR,hoR⟩:=hJ.out.own.read hget;obtain⟨AA,dd,rfl,_,_,_,_⟩:=Z5 hoR;have c3:(wr.alloc (.cells #[.int .i64 n] 3)).cell? ⟨wr.heap.size,0,none⟩=some (.int .i64 n):=by simp
       have hnb:some W.heap.size≠(Value.slice AA l.length dd).ownBlock:=fun e=>by have:=(hoR.lt _ e.symm).1;omega
       have HcR:=hid cR;have HfR:=hid fR;have Hho:=hid (hoR.alloc (.cells #[.int .i64 n] 3));have Hsucc:=hid hsucc;have Hget:=hid hget;have Hs:=hid hs;have hll8:l.length<=8796093022208:=by omega
       clear hl3 hsucc hget hs hlow hn' hM hoR hr7 hll;go_wp2_with (refine Jl rfl _ _ rfl (W.heap.size+1) _ l rfl Hho.out wr.heap.size n rfl c3 (by omega) (by simp;omega) ?_;intro G cap w2 ho3 hg3 hor;have c4:w2.cell? ⟨W.heap.size,k,none⟩=some (.slice AA l.length dd):=hg3.cell ((World.cell?_alloc_lt wr _ _ (by simp;omega)).trans HcR.out) hnb;have f4:w2.frozen? ⟨W.heap.size,k,none⟩=false:=(World.frozen?_of_block (hg3.block _ (by simp;omega) hnb)).trans ((World.frozen?_of_block (Below.heap_alloc wr _ _ (by simp;omega))).trans HfR.out));have hgw:wr.grownBy w2 (Value.slice AA l.length dd).ownBlock:=Zb (Lc wr _ _) hg3;have hP:=hJ.out.put (by omega) Hget.out HcR.out hgw ho3 (hor.elim (fun e=>.inl e.symm) fun e=>.inr fun b hb=>by simp[Value.ownBlock] at hb;subst hb;subst e;simp) rfl;rw[List.set_set,Hsucc.out] at hP;go_roundw
       case rel=>exact⟨j+1,by omega,by go_num,hid (by simpa using hP)⟩
       case measure=>simp[intOf];omega
      ·have hj:j=z.lb9.length:=by omega
       subst hj;rw[List.take_length] at hJ;have HT:=hJ;clear hJ;have Hrow:=hid (show (Lk.set k (z.lb9.map fun s=>(Yd f.bk9 s).getD 0))[k]?=some (z.lb9.map fun s=>(Yd f.bk9 s).getD 0) by simp[hkk]);have hrl8:(z.lb9.map fun s=>(Yd f.bk9 s).getD 0).length<4611686018427387904:=by simp;omega
       obtain⟨rl,hrl⟩:∃ rl:List Nat,rl=(z.lb9.map fun s=>(Yd f.bk9 s).getD 0):=⟨_,rfl⟩
       rw[<-hrl] at HT Hput Hrow hrl8;replace Hput:=hid (show (Lk.set k rl).set k (X3 (Xp rl))=(Zv f.bk9).take (k+1)++List.replicate (f.bk9.length-(k+1)) [] by rw[List.set_set];exact Hput.out);clear hrl;obtain⟨vR,c8,f8,ho8⟩:=HT.out.own.read Hrow.out;obtain⟨A8,d8,rfl,_,_,_,_⟩:=Z5 ho8;have hsT:=HT.out.own.lt;have hlb:=ho8.lt;have hnS:some W.heap.size≠(Value.slice A8 rl.length d8).ownBlock:=fun e=>by have:=(hlb _ e.symm).1;omega
       have Ho8:=hid ho8;have C8:=hid c8;have F8:=hid f8;clear ho8 f8
       repeat go_step
       refine (Qn Ho8.out hrl8).mono ?_;rintro e w6 ⟨rfl,ho6,hg6⟩;have c9:w6.cell? ⟨W.heap.size,k,none⟩=some (.slice A8 rl.length d8):=(Lj (hg6.block _ (by simp;omega) hnS)).trans C8.out;have f9:w6.frozen? ⟨W.heap.size,k,none⟩=false:=(World.frozen?_of_block (hg6.block _ (by simp;omega) hnS)).trans F8.out;have F9:=hid f9;clear f9 c8;go_upto_region 27 with (fail)
       repeat go_step
       have ho6':w6.ownsRow (W.heap.size+1) 3 1 (.slice A8 rl.length d8) (Xp rl).length ((Xp rl).map Z4):=by rw[Qo];exact ho6
       refine (Vv ho6').mono ?_;rintro e w7 ⟨v7,rfl,ho7,hg7,hv7⟩;obtain⟨A9,d9,rfl,_,_,_,_⟩:=Z5 ho7;have c10:w7.cell? ⟨W.heap.size,k,none⟩=some (.slice A8 rl.length d8):=(Lj (hg7.block _ (by have:=hg6.size;simp;omega) hnS)).trans c9;have f10:w7.frozen? ⟨W.heap.size,k,none⟩=false:=(World.frozen?_of_block (hg7.block _ (by have:=hg6.size;simp;omega) hnS)).trans F9.out;have Ho7:=hid ho7;have Hv7:=hid hv7;clear c9 ho6 ho6' ho7 hv7;go_wp2_with fail;go_roundw
       case rel=>
        refine⟨k+1,by omega,by go_num,?_⟩;have hp:=HT.out.put (k:=k) (l':=X3 (Xp rl)) (by omega) Hrow.out C8.out (Zb hg6 hg7) Ho7.out (.inl Hv7.out) rfl;rw[Hput.out] at hp;exact hp
       case measure=>simp[intOf];omega
    ·
     have hL9:=Hlast.out;have hlb:=Hzz.out.lb9;have hlle:=Hzz.out.labelsLe;have hlab:=Hok.out.lab y (Ll Hy.out) (by rw[hL9,hop];decide);rw[hL9] at hlab
     have Hput:=hid (show Lk.set k (X3 (Xp (z.lb9.map fun s=>(Yd f.bk9 s).getD 0)))=(Zv f.bk9).take (k+1)++List.replicate (f.bk9.length-(k+1)) [] by
      have h1:(Zv f.bk9)[k]?=some (X3 (Xp (z.lb9.map fun s=>(Yd f.bk9 s).getD 0))):=by
       rw[Zv,List.getElem?_map,Hy.out]
       simp[J0,hL9,hop,Zfy]
      have:=Qp (z:=([]:List Nat)) h1
      rw[Zr] at this
      rw[HLk.out]
      exact this)
     have HLb:=hid hlb;have Hlab:=hid hlab;have hwr:=H5.out.own.lt;rw[hop] at i0;clear hL9 hop hlb hlab;have hkk:k<Lk.length:=(Le HkL.out).1
     have H50:Hid (OfS w W (Lk.set k ((z.lb9.take 0).map fun s=>(Yd f.bk9 s).getD 0)) w5):=hid (by
      have e:Lk.set k ((z.lb9.take 0).map fun s=>(Yd f.bk9 s).getD 0)=Lk:=by
       apply List.ext_getElem?
       intro i
       by_cases hi:k=i
       ·subst hi;rw[HkL.out];simp[hkk]
       ·simp[List.getElem?_set_ne hi]
      rw[e];exact H5.out)
     clear H5;go_wp2_with fail;go_loopw [59] (fun s8 wr=>∃ j:Nat,j<=z.lb9.length/\s8=.int .i64 j/\Hid (OfS w W (Lk.set k ((z.lb9.take j).map fun s=>(Yd f.bk9 s).getD 0)) wr)) (fun s8 _=>z.lb9.length-(intOf s8).toNat)
     case atStart=>exact⟨0,Ln _,rfl,H50⟩
     case round=>
      obtain⟨j,hjl,rfl,hJ⟩:=hrel;clear H50 i0 i7
      by_cases hl2:j<z.lb9.length
      ·obtain⟨s,b7,off7,hs,rfl,hb7,hr7⟩:=HLb.out.at1 hl2;obtain⟨n,hn'⟩:=Hlab.out s (Ll hs);have hnlt:=V9 hn';have hlow:=hJ.out.low;have hwq:=hJ.out.own.lt;have c7:=cur hlow (by omega) hr7.1;have hM:wr.heap[w.heap.size+1+1]?=some (Z7 encS Z4 (atm f.bk9 (Vz f.bk9.length f.bk9.length))):=(hJ.out.same _ (by omega) (by omega)).trans HW.out.2.1;have hT4:wr.cell? ⟨w.heap.size+1+1+1,0,none⟩=some (.map (some (w.heap.size+1+1))):=(Za ((hJ.out.same _ (by omega) (by omega)).trans HW.out.2.2)).1 0;have hrun:=Vl (P:=Tryz.prog) (Zbr Tryz.underlying9) Tryz.underlying164 hM s (z:=.int .i64 0) (by kernel_rfl);rw[Zpx,hn'] at hrun;simp only[encS,Z4,Option.isSome] at hrun;obtain⟨l,hl3⟩:∃ l,l=((z.lb9.take j).map fun s=>(Yd f.bk9 s).getD 0):=⟨_,rfl⟩
       have hll:l.length=j:=by rw[hl3];simp;omega
       have hsucc:l++[n]=((z.lb9.take (j+1)).map fun s=>(Yd f.bk9 s).getD 0):=by
        rw[hl3,List.take_add_one,hs];simp[hn']
       rw[<-hl3] at hJ;have hget:(Lk.set k l)[k]?=some l:=by simp[hkk]
       obtain⟨vR,cR,fR,hoR⟩:=hJ.out.own.read hget;obtain⟨AA,dd,rfl,_,_,_,_⟩:=Z5 hoR;have c3:(wr.alloc (.cells #[.int .i64 n] 3)).cell? ⟨wr.heap.size,0,none⟩=some (.int .i64 n):=by simp
       have hnb:some W.heap.size≠(Value.slice AA l.length dd).ownBlock:=fun e=>by have:=(hoR.lt _ e.symm).1;omega
       have HcR:=hid cR;have HfR:=hid fR;have Hho:=hid (hoR.alloc (.cells #[.int .i64 n] 3));have Hsucc:=hid hsucc;have Hget:=hid hget;have Hs:=hid hs;have hll8:l.length<=8796093022208:=by omega
       clear hl3 hsucc hget hs hlow hn' hM hoR hr7 hll;go_wp2_with (refine Jl rfl _ _ rfl (W.heap.size+1) _ l rfl Hho.out wr.heap.size n rfl c3 (by omega) (by simp;omega) ?_;intro G cap w2 ho3 hg3 hor;have c4:w2.cell? ⟨W.heap.size,k,none⟩=some (.slice AA l.length dd):=hg3.cell ((World.cell?_alloc_lt wr _ _ (by simp;omega)).trans HcR.out) hnb;have f4:w2.frozen? ⟨W.heap.size,k,none⟩=false:=(World.frozen?_of_block (hg3.block _ (by simp;omega) hnb)).trans ((World.frozen?_of_block (Below.heap_alloc wr _ _ (by simp;omega))).trans HfR.out));have hgw:wr.grownBy w2 (Value.slice AA l.length dd).ownBlock:=Zb (Lc wr _ _) hg3;have hP:=hJ.out.put (by omega) Hget.out HcR.out hgw ho3 (hor.elim (fun e=>.inl e.symm) fun e=>.inr fun b hb=>by simp[Value.ownBlock] at hb;subst hb;subst e;simp) rfl;rw[List.set_set,Hsucc.out] at hP;go_roundw
       case rel=>exact⟨j+1,by omega,by go_num,hid (by simpa using hP)⟩
       case measure=>simp[intOf];omega
      ·have hj:j=z.lb9.length:=by omega
       subst hj;rw[List.take_length] at hJ;have HT:=hJ;clear hJ;have Hrow:=hid (show (Lk.set k (z.lb9.map fun s=>(Yd f.bk9 s).getD 0))[k]?=some (z.lb9.map fun s=>(Yd f.bk9 s).getD 0) by simp[hkk]);have hrl8:(z.lb9.map fun s=>(Yd f.bk9 s).getD 0).length<4611686018427387904:=by simp;omega
       obtain⟨rl,hrl⟩:∃ rl:List Nat,rl=(z.lb9.map fun s=>(Yd f.bk9 s).getD 0):=⟨_,rfl⟩
       rw[<-hrl] at HT Hput Hrow hrl8;replace Hput:=hid (show (Lk.set k rl).set k (X3 (Xp rl))=(Zv f.bk9).take (k+1)++List.replicate (f.bk9.length-(k+1)) [] by rw[List.set_set];exact Hput.out);clear hrl;obtain⟨vR,c8,f8,ho8⟩:=HT.out.own.read Hrow.out;obtain⟨A8,d8,rfl,_,_,_,_⟩:=Z5 ho8;have hsT:=HT.out.own.lt;have hlb:=ho8.lt;have hnS:some W.heap.size≠(Value.slice A8 rl.length d8).ownBlock:=fun e=>by have:=(hlb _ e.symm).1;omega
       have Ho8:=hid ho8;have C8:=hid c8;have F8:=hid f8;clear ho8 f8
       repeat go_step
       refine (Qn Ho8.out hrl8).mono ?_;rintro e w6 ⟨rfl,ho6,hg6⟩;have c9:w6.cell? ⟨W.heap.size,k,none⟩=some (.slice A8 rl.length d8):=(Lj (hg6.block _ (by simp;omega) hnS)).trans C8.out;have f9:w6.frozen? ⟨W.heap.size,k,none⟩=false:=(World.frozen?_of_block (hg6.block _ (by simp;omega) hnS)).trans F8.out;have F9:=hid f9;clear f9 c8;go_upto_region 27 with (fail)
       repeat go_step
       have ho6':w6.ownsRow (W.heap.size+1) 3 1 (.slice A8 rl.length d8) (Xp rl).length ((Xp rl).map Z4):=by rw[Qo];exact ho6
       refine (Vv ho6').mono ?_;rintro e w7 ⟨v7,rfl,ho7,hg7,hv7⟩;obtain⟨A9,d9,rfl,_,_,_,_⟩:=Z5 ho7;have c10:w7.cell? ⟨W.heap.size,k,none⟩=some (.slice A8 rl.length d8):=(Lj (hg7.block _ (by have:=hg6.size;simp;omega) hnS)).trans c9;have f10:w7.frozen? ⟨W.heap.size,k,none⟩=false:=(World.frozen?_of_block (hg7.block _ (by have:=hg6.size;simp;omega) hnS)).trans F9.out;have Ho7:=hid ho7;have Hv7:=hid hv7;clear c9 ho6 ho6' ho7 hv7;go_wp2_with fail;go_roundw
       case rel=>
        refine⟨k+1,by omega,by go_num,?_⟩;have hp:=HT.out.put (k:=k) (l':=X3 (Xp rl)) (by omega) Hrow.out C8.out (Zb hg6 hg7) Ho7.out (.inl Hv7.out) rfl;rw[Hput.out] at hp;exact hp
       case measure=>simp[intOf];omega
    ·
     have hL9:=Hlast.out
     have Hput:=hid (show Lk.set k (X3 (Xp []))=(Zv f.bk9).take (k+1)++List.replicate (f.bk9.length-(k+1)) [] by
      have h1:(Zv f.bk9)[k]?=some (X3 (Xp [])):=by
       rw[Zv,List.getElem?_map,Hy.out]
       simp[J0,hL9,hop,Zfy]
      have:=Qp (z:=([]:List Nat)) h1
      rw[Zr] at this
      rw[HLk.out]
      exact this)
     have Hrow:=HkL;have HT:=H5;obtain⟨rl,hrl⟩:∃ rl:List Nat,rl=[]:=⟨_,rfl⟩
     replace Hrow:=hid (show Lk[k]?=some rl by rw[hrl];exact Hrow.out);replace Hput:=hid (show Lk.set k (X3 (Xp rl))=(Zv f.bk9).take (k+1)++List.replicate (f.bk9.length-(k+1)) [] by rw[hrl];exact Hput.out);have hrl8:rl.length<4611686018427387904:=by rw[hrl];simp
     rw[hop] at i0;clear hL9 hop hrl;obtain⟨vR,c8,f8,ho8⟩:=HT.out.own.read Hrow.out;obtain⟨A8,d8,rfl,_,_,_,_⟩:=Z5 ho8;have hsT:=HT.out.own.lt;have hlb:=ho8.lt;have hnS:some W.heap.size≠(Value.slice A8 rl.length d8).ownBlock:=fun e=>by have:=(hlb _ e.symm).1;omega
     have Ho8:=hid ho8;have C8:=hid c8;have F8:=hid f8;clear ho8 f8
     repeat go_step
     refine (Qn Ho8.out hrl8).mono ?_;rintro e w6 ⟨rfl,ho6,hg6⟩;have c9:w6.cell? ⟨W.heap.size,k,none⟩=some (.slice A8 rl.length d8):=(Lj (hg6.block _ (by simp;omega) hnS)).trans C8.out;have f9:w6.frozen? ⟨W.heap.size,k,none⟩=false:=(World.frozen?_of_block (hg6.block _ (by simp;omega) hnS)).trans F8.out;have F9:=hid f9;clear f9 c8;go_upto_region 27 with (fail)
     repeat go_step
     have ho6':w6.ownsRow (W.heap.size+1) 3 1 (.slice A8 rl.length d8) (Xp rl).length ((Xp rl).map Z4):=by rw[Qo];exact ho6
     refine (Vv ho6').mono ?_;rintro e w7 ⟨v7,rfl,ho7,hg7,hv7⟩;obtain⟨A9,d9,rfl,_,_,_,_⟩:=Z5 ho7;have c10:w7.cell? ⟨W.heap.size,k,none⟩=some (.slice A8 rl.length d8):=(Lj (hg7.block _ (by have:=hg6.size;simp;omega) hnS)).trans c9;have f10:w7.frozen? ⟨W.heap.size,k,none⟩=false:=(World.frozen?_of_block (hg7.block _ (by have:=hg6.size;simp;omega) hnS)).trans F9.out;have Ho7:=hid ho7;have Hv7:=hid hv7;clear c9 ho6 ho6' ho7 hv7;go_wp2_with fail;go_roundw
     case rel=>
      refine⟨k+1,by omega,by go_num,?_⟩;have hp:=HT.out.put (k:=k) (l':=X3 (Xp rl)) (by omega) Hrow.out C8.out (Zb hg6 hg7) Ho7.out (.inl Hv7.out) rfl;rw[Hput.out] at hp;exact hp
     case measure=>simp[intOf];omega
   ·
    have hEND:=trivial;have hSG:OfS w W (Zv f.bk9) wr:=by
     have h1:=hI.out;have h2:k=f.bk9.length:=by omega
     rw[h2,Nat.sub_self,List.replicate_zero,List.append_nil,List.take_of_length_le (by rw[Zr];exact Nat.le_refl _)] at h1;exact h1
    have hgk:=Zcj Hok.out;have hgr:=hSG.own.graph (n:=f.bk9.length) (Zr _).symm (by unfold maxLen;omega) (fun r hr x hx=>by have:=hgk.lt r hr x hx;rw[Zr] at this;omega);have hback:=Zkz _ (Zv f.bk9) wr.heap.size wr (Lf _) hgr hgk;have HSG:=hid hSG;have hDr:wr.heap[D]?=some (.deferred (some [])):=(hSG.same D (by omega) hDl).trans HK.out;have hF:wr.heap[w.heap.size+1]?=some (.cells #[.slice none 0 0,.slice none 0 0] 143 (0,0)):=(hSG.same _ (by omega) (by omega)).trans HW.out.1;have HDr:=hid hDr;have HF:=hid hF;clear hI hlow hSG hgr hDr hF;go_upto_region 29 with (fail)
    repeat go_step
    refine hback.mono ?_;rintro e w8 ⟨S2,base2,rfl,hS2,hG2,hb8⟩;have hsz8:=hb8.size;have hF8:=(hb8.block _ (by omega)).trans HF.out;have hD8:=(hb8.block _ (by omega)).trans HDr.out;have hS8:=HSG.out.own.below hb8;have hlow8:=HSG.out.low.trans (hb8.mono (by omega));obtain⟨f1,f2⟩:=Za hF8;rw[Zr];have HG2:=hid hG2;have HS8:=hid hS8;have HF8:=hid hF8;have HD8:=hid hD8;have Hlow8:=hid hlow8;have Hb8:=hid hb8;clear hG2 hS8 hF8 hD8 hlow8 hb8;go_wp2_with fail;have hK':((w8.setCell ⟨w.heap.size+1,0,none⟩ (.slice (some ⟨W.heap.size,0,none⟩) f.bk9.length f.bk9.length)).setCell ⟨w.heap.size+1,1,none⟩ (.slice (some ⟨S2,0,none⟩) f.bk9.length f.bk9.length)).heap[D]?=some (.deferred (some [])):=
     Yl (Yl HD8.out (by simp;omega) _) (by simp;omega) _
    refine⟨by simp,.inl ⟨_,_,rfl,run_takeDeferred hK',?_⟩⟩;have hc1:=(World.putObj_heap_other (o:=.deferred none) (show w.heap.size+1≠D by omega)).trans (Zs (Zs HF8.out 0 (.slice (some ⟨W.heap.size,0,none⟩) f.bk9.length f.bk9.length)) 1 (.slice (some ⟨S2,0,none⟩) f.bk9.length f.bk9.length));obtain⟨j1,_⟩:=Za hc1;have hgr9:w8.grownBy ((w8.setCell ⟨w.heap.size+1,0,none⟩ (.slice (some ⟨W.heap.size,0,none⟩) f.bk9.length f.bk9.length)).setCell ⟨w.heap.size+1,1,none⟩ (.slice (some ⟨S2,0,none⟩) f.bk9.length f.bk9.length)) (some (w.heap.size+1)):=
     Zn (p:=⟨w.heap.size+1,1,none⟩) (Zn (p:=⟨w.heap.size+1,0,none⟩) (Lb w8 (some (w.heap.size+1))) rfl _) rfl _
    have hgD:=grownBy_putObj' ((w8.setCell ⟨w.heap.size+1,0,none⟩ (.slice (some ⟨W.heap.size,0,none⟩) f.bk9.length f.bk9.length)).setCell ⟨w.heap.size+1,1,none⟩ (.slice (some ⟨S2,0,none⟩) f.bk9.length f.bk9.length)) D (.deferred none);have hsl:=HSG.out.own.lt;refine⟨.tuple #[.agg #[.slice (some ⟨W.heap.size,0,none⟩) f.bk9.length f.bk9.length,.slice (some ⟨S2,0,none⟩) f.bk9.length f.bk9.length],.int .i64 0],?_,?_⟩
    ·simp[results,Tryz.f87,go_sem,j1]
    ·refine⟨W.heap.size,S2,_,_,rfl,by omega,by omega,(HS8.out.keptLow hgr9 (by omega)).keptLow hgD (by omega),(HG2.out.keptLow hgr9 (by omega)).keptLow hgD (by omega),?_⟩;exact Z1 (Z1 Hlow8.out hgr9 (by omega) (fun r e=>by cases e;omega)) hgD (by simp[World.setCell];omega) (fun r e=>by cases e;omega)
 case stop=>
  rintro D c pre W _ _ hX _;exact hX.elim

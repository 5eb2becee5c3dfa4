/- Method Rets of a map of package sites. Conditions in it. -/
import Derived.Test.YtlcogjllnbfneaaGreatESitB
set_option maxHeartbeats 8000000
set_option maxRecDepth 100000
set_option linter.all false
namespace Go.Proofs.YtlcogjllnbfneaaGreat
open Lib(hid)
open Go.RowKit Go.Shelf
attribute [local go_sem] Oper.semAt_some
def encI (v:Int):Value:=.int .i64 v
def Yhk (p:GProg) (f:Nat) (l:List (GPt×GIns)):List Int:=(l.filter fun q=>q.2.op == 14).map fun q=>(Zag p f q.2.a).1
theorem Yik (p:GProg) (f:Nat) (l:List (GPt×GIns)) (q:GPt×GIns):Yhk p f (l++[q])=if q.2.op=14 then Yhk p f l++[(Zag p f q.2.a).1] else Yhk p f l:=by
 unfold Yhk;rw[List.filter_append,List.map_append]
 by_cases h:q.2.op=14
 ·rw[if_pos h];simp[h]
 ·rw[if_neg h];simp[h]
theorem Yja (p:GProg) (f:Nat) (l:List (GPt×GIns)):(Yhk p f l).length<=l.length:=by
 unfold Yhk;rw[List.length_map];exact List.length_filter_le _ _
theorem Yhv {F:Fence} {rm:Nat} {P:Program} {w:World} {ops:Array Oper} {rest:List Oper} {o:Oper} {a:Act} {Q:Exit->Act->World->Prop} (hgd:o.guard=none) (s x:Operand) (t:TypeId)
  (ho:o.op=.call { callee:=.builtin .append,args:= #[s,x],argTypes:= #[t,t] })
  (base:Nat) (e:TypeId) (z:Value) (size bytes:Nat) (ht:P.underlying t=some (.slice e)) (hinfo:(P.info? e).map (fun i=>(i.zero,i.size,i.bytes))=some (some z,size,bytes)) (hzs:z.cells.size=size) (hsz:0<size)
  (v:Value) (xs:List Value) (n:Nat) (hs:a.eval s=v) (hown:w.ownsRow base e size v n xs)
  (b:Nat) (news:List Value) (hl:news.length=size) (hu:∀ u∈news,u.oneCell'=true) (hx:a.eval x=.slice (some ⟨b,0,none⟩) 1 1) (cs:Array Value) (tb:TypeId) (hb:w.heap[b]?=some (.cells cs tb (0,0))) (hcs:cs.toList=news)
  (h63:n+1<=maxLen) (hbytes:(n+1)*bytes<=140737488355328) (hbase:base<=w.heap.size)
  (h:∀ g c w',w'.ownsRow base e size (.slice (some ⟨g,0,none⟩) (n+1) c) (n+1) (xs++news)->w.grownBy w' v.ownBlock->(v.ownBlock=some g\/g=w.heap.size)->wpListIn F rm P ops Q rest (a.put o.dst (.slice (some ⟨g,0,none⟩) (n+1) c)) w'):
  wpListIn F rm P ops Q (o::rest) a w:=by
 refine wpListIn_plain hgd fun K hK'=>?_
 obtain⟨g,c,w',hrun,h1,h2,h3⟩:=Ztf (P:=P) t o.type base e z size bytes ht hinfo hzs hsz v xs n hown b news hl hu cs tb hb hcs h63 hbytes hbase;unfold Oper.wpIn;refine⟨?_,?_⟩
 ·simp[Oper.about,ho,resolve,Target.leads,Sem.run_pure]
 ·rw[Oper.semAt_plain F _ _ (by rw[ho];intro c hc';cases hc')];simp[execOp,ho,resolve,invoke,builtin,hs,hx,hrun,Result.andThen];exact hK' _ _ (h g c w' h1 h2 h3)
structure RetI (wS:World) (ob:Nat) (l:List Int) (W:World):Prop where
 blk:∃ v,W.heap[ob]?=some (.cells #[v] 84 (0,0))/\W.ownsRow wS.heap.size 3 1 v l.length (l.map encI)
 chg:Chg (fun n=>n=ob) wS W
theorem RetI.keep {wS W W':World} {ob:Nat} {l:List Int} {Q:Nat->Prop} (hs:RetI wS ob l W) (hc:Chg Q W W') (h1:¬ Q ob) (h2:∀ n,n<wS.heap.size->¬ Q n) (h3:∀ n o,W.heap[n]?=some o->o.isCells=true->¬ Q n):RetI wS ob l W':=by
 obtain⟨v,h4,h5⟩:=hs.blk;refine⟨⟨v,hc.at_ h4 h1,hc.owns h5 (fun g e=>?_)⟩,hs.chg.trans hc (fun n hn e=>absurd e (h2 n hn))⟩;obtain⟨hl,h6⟩:=h5
 rcases h6 with ⟨h6,_⟩|⟨g',cap,cur,rfl,hb,hh,r⟩
 ·rw[h6] at e;cases e
 ·simp only[Value.ownBlock,Option.map_some,Option.some.injEq] at e;subst e;exact h3 _ _ hh rfl
theorem Yjj {wS:World} {ob:Nat} {p:GProg} {f:Nat} {w0:World} {B:Nat} {q:GProg} (hob:ob<wS.heap.size):OwnFrom wS.heap.size (fun (pre:List (Pt4 w0 B q)) W=>RetI wS ob (Yhk p f (pre.map pj)) W):=fun s W W' row hs hg hr=>
 hs.keep (Q:=fun n=>row=some n) (Chg.grown hg (fun r e=>e)) (fun e=>by have:=(hr ob e).1;omega) (fun n hn e=>by have:=(hr n e).1;omega) (fun n o ho hc e=>by
  obtain⟨_,o',ho',hc'⟩:=hr n e
  rw[ho] at ho'
  cases ho'
  rw[hc] at hc'
  cases hc')
theorem Yii {w:World} {base base' n sz:Nat} {e:TypeId} {v:Value} {xs:List Value} (h:w.ownsRow base e sz v n xs) (hb:base'<=base):w.ownsRow base' e sz v n xs:=by
 obtain⟨hl,h6⟩:=h;refine⟨hl,?_⟩
 rcases h6 with h6|⟨g',cap,cur,e1,hb',r⟩
 ·exact .inl h6
 ·exact .inr ⟨g',cap,cur,e1,Nat.le_trans hb hb',r⟩
theorem Yhx {w:World} {base n sz:Nat} {e:TypeId} {v:Value} {xs:List Value} (h:w.ownsRow base e sz v n xs) {g:Nat} (hg:v.ownBlock=some g):∃ cs t f,w.heap[g]?=some (.cells cs t f):=by
 obtain⟨hl,h6⟩:=h
 rcases h6 with ⟨h6,_⟩|⟨g',cap,cur,rfl,hb,hh,r⟩
 ·rw[h6] at hg;cases hg
 ·simp only[Value.ownBlock,Option.map_some,Option.some.injEq] at hg;subst hg;exact⟨_,_,_,hh⟩
variable {lo:Nat} {w:World} {m:Nat} {p:GProg}
theorem Yix (h:MapL lo w m p) {f:Nat} {x:GFun} (hf:p[f]?=some x):Calls Tryz.prog 48 #[.pointer (some ⟨m,0,none⟩),.int .i64 f] w fun e w'=>∃ v,e=.returned v/\
  w'.ownsRow w.heap.size 3 1 v (Yhk p f (pts [x])).length ((Yhk p f (pts [x])).map encI)/\w.grownBy w' none:=by
 have hfl:=(Le hf).1;have HM:=hid h;obtain⟨W2,hW2⟩:∃ W2,W2=(w.alloc (.cells #[.pointer (some ⟨m,0,none⟩)] 51)).alloc (.cells #[.int .i64 f] 3):=⟨_,rfl⟩
 have hg2:w.grownBy W2 none:=by rw[hW2];exact Zd (Lc w _ none) _
 have hN:=Zaz (h.grown hg2) f;rw[decide_eq_true (show 0<=(f:Int)/\(f:Int)<p.length by omega)] at hN;obtain⟨A,c,vt,ft,mb,AS,cS,AO,cO,AP,cP,h⟩:=h.open_;have c0:w.cell? ⟨m,0,none⟩=some (.slice A p.length c):=(Za h.blk).1 0;have hml:=Ze h.blk;obtain⟨A5,c5,e5,hl1,hl2,-,hA⟩:=h.prog.open_;obtain⟨rfl,rfl⟩:A5=A/\c5=c:=by simp only[Value.slice.injEq] at e5;exact⟨e5.1.symm,e5.2.2.symm⟩
 obtain⟨b,off,rfl,hbw,hone⟩:=hA.one hf;have Hone:=hid hone;have Hcnt:=hid (Zms h.ok hf);have hrn:=Yip b off p.length c5 f hfl hl2;have hfw:IntKind.i64.wrap ((f:Int)+1)=(f:Int)+1:=by rw[IntKind.wrap_i64];omega
 have hb2:W2.heap[w.heap.size]?=some (.cells #[.pointer (some ⟨m,0,none⟩)] 51 (0,0)):=by rw[hW2];exact Zc (La w _) _
 have hb3:W2.heap[w.heap.size+1]?=some (.cells #[.int .i64 f] 3 (0,0)):=by
  have:=La (w.alloc (.cells #[.pointer (some ⟨m,0,none⟩)] 51)) (.cells #[.int .i64 f] 3);rw[World.size_alloc] at this;rw[hW2];exact this
 have hs2:W2.heap.size=w.heap.size+2:=by rw[hW2];simp
 have HS:=hid (show ∀ W':World,W2.grownBy W' none->W'.cell? ⟨w.heap.size,0,none⟩=some (.pointer (some ⟨m,0,none⟩))/\W'.cell? ⟨w.heap.size+1,0,none⟩=some (.int .i64 f)/\W'.cell? ⟨m,0,none⟩=some (.slice (some ⟨b,off,none⟩) p.length c5) from fun W' hg=>
                   ⟨(Lj (hg.block w.heap.size (by omega) (by simp))).trans ((Za hb2).1 0),(Lj (hg.block (w.heap.size+1) (by omega) (by simp))).trans ((Za hb3).1 0),(Lj ((Zb hg2 hg).block _ hml (by simp))).trans c0⟩)
 obtain⟨k2,k3,k0⟩:=HS.out W2 (Lb _ _);have Hg2:=hid hg2;have Hs2:=hid hs2;have Hml:=hid hml;clear h hA e5 hone hb2 hb3 c0 hg2 hs2 hml;refine (callsIn_wide (n:=9)).1 ?_;refine callsIn_of_wp_marks Tryz.func48 rfl trivial ?_ rfl;refine wpIn_wide.2 ?_;simp only[Tryz.ntmps48,List.size_toArray,List.length_cons,List.length_nil,Nat.reduceAdd,Nat.reduceSub,Array.replicate_succ,Array.replicate_zero,List.push_toArray,List.append_toArray,List.nil_append,List.cons_append];go_upto_region 1 with (fail)
 rw[<-hW2];clear hW2;go_upto_region 4 with (first|(go_at_call 67;refine hN.mono ?_;rintro e w1 ⟨rfl,rfl⟩))
 obtain⟨w3,hw3⟩:∃ w3,w3=W2.alloc (.cells #[.slice none 0 0] 84):=⟨_,rfl⟩
 have hg23:W2.grownBy w3 none:=by rw[hw3];exact Lc W2 _ none
 have hs3:w3.heap.size=w.heap.size+3:=by rw[hw3];simp[Hs2.out]
 obtain⟨ob,hob⟩:∃ ob,ob=W2.heap.size:=⟨_,rfl⟩
 have hbo:w3.heap[ob]?=some (.cells #[.slice none 0 0] 84 (0,0)):=by rw[hw3,hob];exact La W2 _
 rw[<-hw3,<-hob];obtain⟨b2,hb2⟩:∃ b2,b2=w.heap.size:=⟨_,rfl⟩
 obtain⟨b3,hb3⟩:∃ b3,b3=w.heap.size+1:=⟨_,rfl⟩
 rw[<-hb3,<-hb2] at HS;rw[<-hb3,<-hb2];have Hbb:=hid (show b2=w.heap.size/\b3=w.heap.size+1/\ob=w.heap.size+2/\w3.heap.size=w.heap.size+3 from ⟨hb2,hb3,hob.trans Hs2.out,hs3⟩);clear hw3 k2 k3 k0 hs3 hob hb2 hb3;have hs0:=HS.out w3.drew (Zf hg23);have hsc:=Zth (some ⟨b,off+f*3,none⟩) 1 (c5-f);go_cut [24] from 25 (fun s24 wx=>s24=.func (.func 98) #[] #[.pointer (some ⟨w3.heap.size,0,none⟩)]/\wx=(w3.alloc (.cells #[.slice (some ⟨b,off+f*3,none⟩) 1 (c5-f)] 47)).drew)
 case first=>
  go_region_held3 (fun W'=>W'.cell? ⟨b2,0,none⟩=some (.pointer (some ⟨m,0,none⟩))/\W'.cell? ⟨b3,0,none⟩=some (.int .i64 f)/\W'.cell? ⟨m,0,none⟩=some (.slice (some ⟨b,off,none⟩) p.length c5))
   (first|exact hs0|exact HS.out _ (Zf (Zd hg23 _))|exact HS.out _ (Zd (Zf hg23) _)) ((go_simp;go_at_call 65;refine (hsc _).mono ?_;rintro e w' ⟨rfl,rfl⟩))
  all_goals (go_wp2_with fail;go_meet)
  all_goals exact⟨rfl,rfl⟩
 case rest=>
  obtain⟨rfl,hwc⟩:=hcut;obtain⟨cb,hcbe⟩:∃ cb,cb=w3.heap.size:=⟨_,rfl⟩
  have hsS:wc.heap.size=cb+1:=by rw[hwc,hcbe];simp[World.drew]
  have hcb:wc.heap[cb]?=some (.cells #[.slice (some ⟨b,off+f*3,none⟩) 1 (c5-f)] 47 (0,0)):=by rw[hwc,hcbe];exact La w3 _
  have hg3c:w3.grownBy wc none:=by rw[hwc];exact Zf (Lc w3 _ none)
  rw[<-hcbe];have Hcb:=hid (show cb=w.heap.size+3 from hcbe.trans Hbb.out.2.2.2);have hobc:wc.heap[ob]?=some (.cells #[.slice none 0 0] 84 (0,0)):=(hg3c.block ob (Ze hbo) (by simp)).trans hbo;have hg2c:=Zb hg23 hg3c;have hgc:=Zb Hg2.out hg2c;have hlow:Below w.heap.size w wc:=Zk hgc;have Hg2c:=hid hg2c;have Hgc:=hid hgc;have hobl:ob<wc.heap.size:=Ze hobc;have HHS:=HS;clear hwc hcbe hg3c hbo hs0 hsc hg23 hrn hfw;go_wp2_with fail
  refine (wpIn_wide (n:=8)).1 (wpIn_rangeFunc_ownH rfl (by omega) (gf:=98) (lb:= #[.pointer (some ⟨cb,0,none⟩)]) rfl trivial (enters_of Tryz.func98 (by kernel_rfl) rfl)
                               (Zmx 7 (by omega) cb w.heap.size [x] (.slice (some ⟨b,off+f*3,none⟩) 1 (c5-f)) w Hone.out wc hlow (by omega) (by have:=Hcb.out;omega) ((Za hcb).1 0)) Yio (kpB_b (by have:=Hcb.out;omega) (by omega)) (Below.refl _ _) (fun _=>rfl)
                               (fun (pre:List (Pt4 w w.heap.size [x])) W=>RetI wc ob (Yhk p f (pre.map pj)) W)
                               (fun _ _ _=>False) (Yjj hobl) (fun c=>fun _ _ _ _ h _ _=>h) ⟨⟨_,hobc,⟨rfl,.inl ⟨rfl,rfl⟩⟩⟩,.refl _ _⟩
                               (fun y a' W=>∃ b7,wc.heap.size<=b7/\
                                W.heap[b7]?=some (.cells #[.int .u8 y.1.2.1.op,.string ⟨y.1.2.1.dst.toArray⟩,.string ⟨y.1.2.1.a.toArray⟩,.string ⟨y.1.2.1.b.toArray⟩,.int .i64 y.1.2.1.n,.string ⟨y.1.2.1.fn.toArray⟩,y.1.2.2.1,y.1.2.2.2] 25 (0,0))/\
                                a'={ tmps:= #[.pointer (some ⟨m,0,none⟩),.int .i64 f,.pointer (some ⟨b2,0,none⟩),.pointer (some ⟨b3,0,none⟩),.slice none 0 0,.pointer (some ⟨ob,0,none⟩),undef,.pointer (some ⟨b7,0,none⟩),undef,undef,.pointer (some ⟨m,0,none⟩),.int .i64 f,.bool true,.bool false,u14,u15,u16,u17,u18,u19,u20,u21,u22,u23,.func (.func 98) #[] #[.pointer (some ⟨cb,0,none⟩)],ptA y.1.1,Uh y.1.2.1 y.1.2.2.1 y.1.2.2.2,u27,u28,u29,u30,u31,u32,u33,u34,u35,u36,u37,u38,u39,u40,u41,u42],defers:=[] })
                               ?hAx ?assign ?body ?done ?stop)
  case hAx=>
   rintro y a' _ X Y row hs hg hr;obtain⟨b7,h1,h2,h3⟩:=hs
   exact⟨b7,h1,(hg.block b7 (Ze h2) (fun e=>by
    obtain⟨_,o,ho,hc⟩:=hr b7 e.symm
    rw[h2] at ho
    cases ho
    cases hc)).trans h2,h3⟩
  case assign=>
   rintro l pre ⟨⟨pt,z,va,vl⟩,hi,hmp⟩ W K hI hK;have hi':InsAt w w.heap.size z va vl:=hi;obtain⟨A4,d4,q4,-,-,-,-⟩:=hi'.args.open_;obtain⟨A6,d6,q6,-,-,-,-⟩:=hi'.lb9.open_;subst q4;subst q6;have hWs:=hI.chg.size;have HI:=hid hI;have hcbl:cb<W.heap.size:=by omega
   have hwl:w.heap.size<=W.heap.size:=by have:=Hcb.out;omega
   clear hI;simp only[Zlo,ptA,Uh];gi_wp2;have h7:=La W (.cells #[.int .u8 z.op,.string ⟨z.dst.toArray⟩,.string ⟨z.a.toArray⟩,.string ⟨z.b.toArray⟩,.int .i64 z.n,.string ⟨z.fn.toArray⟩,.slice A4 z.args.length d4,.slice A6 z.lb9.length d6] 25);exact hK _ _ ((KeepsOthers.alloc _ _).from _) ⟨(Below.refl _ W).alloc hwl _,Below.heap_alloc _ _ _ hcbl⟩
    (HI.out.keep (Q:=fun _=>False) (Chg.alloc _ W _) (fun e=>e) (fun _ _ e=>e) (fun _ _ _ _ e=>e)) ⟨W.heap.size,hWs,h7,rfl⟩
  case body=>
   rintro l pre ⟨⟨pt,z,va,vl⟩,hi,hmp⟩ a' W hlo hlr hI ⟨b7,h7,h8,ha'⟩ hpl;subst ha';have hi':InsAt w w.heap.size z va vl:=hi;obtain⟨A4,d4,q4,-,-,-,-⟩:=hi'.args.open_;obtain⟨A6,d6,q6,-,-,-,-⟩:=hi'.lb9.open_;subst q4;subst q6;dsimp only[ptA,Uh] at h8 ⊢;have hWs:=hI.chg.size;obtain⟨k,-⟩:=Za h8;have k8a:=k 0;have k8b:=k 2;obtain⟨v,hv1,hv2⟩:=hI.blk;obtain⟨l2,l3,l4,l5⟩:=Hbb.out;have hcq:=Hcb.out;obtain⟨g2,g3,-⟩:=HHS.out wc Hg2c.out;have kb2:W.cell? ⟨b2,0,none⟩=some (.pointer (some ⟨m,0,none⟩)):=(Lj (hI.chg.block b2 (by omega) (by show ¬ b2=ob;omega))).trans g2;have kb3:W.cell? ⟨b3,0,none⟩=some (.int .i64 f):=(Lj (hI.chg.block b3 (by omega) (by show ¬ b3=ob;omega))).trans g3;have hcW:Chg (fun n=>n=ob) w W:=(Chg.grown (Q:=fun n=>n=ob) Hgc.out (fun r e=>by cases e)).trans hI.chg (fun _ _ e=>e);have hvar:=Zbw (HM.out.chg hcW (fun n _ hn e=>by omega)) (f:Int) z.a;have Hfin:=hid (show ∀ W' Q',(Yhk p f ((pre++[(⟨(pt,z,Value.slice A4 z.args.length d4,Value.slice A6 z.lb9.length d6),hi,hmp⟩:Pt4 w w.heap.size [x])]).map pj))=Q'->RetI wc ob Q' W'->RetI wc ob (Yhk p f ((pre++[(⟨(pt,z,Value.slice A4 z.args.length d4,Value.slice A6 z.lb9.length d6),hi,hmp⟩:Pt4 w w.heap.size [x])]).map pj)) W' from fun W' Q' e h=>e▸h)
   have Hmore:=hid (show (Yhk p f ((pre++[(⟨(pt,z,Value.slice A4 z.args.length d4,Value.slice A6 z.lb9.length d6),hi,hmp⟩:Pt4 w w.heap.size [x])]).map pj))=if z.op=14 then Yhk p f (pre.map pj)++[(Zag p f z.a).1] else Yhk p f (pre.map pj) from by
    rw[List.map_append,List.map_cons,List.map_nil,Yik]
    rfl)
   have hln:(Yhk p f (pre.map pj)).length<=4096:=by
    have h1:=Yja p f (pre.map pj);have h2:=Hcnt.out;rw[List.length_map] at h1;omega
   have Hln:=hid hln;have HI:=hid hI;have Hv1:=hid hv1;have Hv2:=hid hv2;have hobW:=Ze hv1;have hwW:w.heap.size<=ob/\w.heap.size<W.heap.size/\cb<W.heap.size:=by omega
   clear hI hv1 hv2 k h8 hln hcW g2 g3 l2 l3 l4 l5 hcq
   by_cases ho:(z.op:Int)=14
   ·have ho':z.op=14:=by omega
    gi_upto_region 8 with ((refine⟨trivial,?_⟩;gi_at_call 24;refine (CallsIn.inRound l (callsIn_wide.2 hvar)).mono ?_;rintro e w9 ⟨rfl,hg9⟩))
    have hv9:=(hg9.block ob hobW (by simp)).trans Hv1.out;obtain⟨ko,fo⟩:=Za hv9;have ko0:=ko 0;obtain⟨wA,hwA⟩:∃ wA,wA=w9.alloc (.cells #[.int .i64 (Zag p f z.a).1] 3):=⟨_,rfl⟩
    have hgA:w9.grownBy wA none:=by rw[hwA];exact Lc _ _ none
    have hbA:wA.heap[w9.heap.size]?=some (.cells #[.int .i64 (Zag p f z.a).1] 3 (0,0)):=by rw[hwA];exact La _ _
    have hoA:wA.ownsRow wc.heap.size 3 1 v (Yhk p f (pre.map pj)).length ((Yhk p f (pre.map pj)).map encI):=(Chg.grown (Q:=fun _=>False) (Zb hg9 hgA) (fun r e=>by cases e)).owns Hv2.out (fun _ _ e=>e);have hs9:=hg9.size;have hsA:=hgA.size;clear ko fo;have hown:=fun g=>Hv2.out.lt g
    have Hkp:=hid (show ∀ W',wA.grownBy W' v.ownBlock->W'.heap[ob]?=some (.cells #[v] 84 (0,0)) from fun W' hg=>(hg.block ob (by omega) (fun e=>by have:=(hown ob e.symm).1;omega)).trans ((hgA.block ob (by omega) (by simp)).trans hv9));have Hown:=hid hown;clear hown;gi_wp2_with (gi_at_builtin;go_must (rw[<-hwA];refine Yhv rfl (.tmp 38) (.tmp 40) 84 rfl wc.heap.size 3 _ 1 8 Tryz.underlying84 Yin rfl (by decide) v _ _ rfl hoA w9.heap.size [encI (Zag p f z.a).1] rfl (by simp[encI,Value.oneCell']) rfl _ _ hbA rfl (by have:=Hln.out;unfold maxLen;omega) (by have:=Hln.out;omega) (by omega) ?_;intro g c' w10 h1 h2 h3;have hb10:=Hkp.out w10 h2;obtain⟨kx,fx⟩:=Za hb10;have kx0:=kx 0;have fx0:=fx 0;clear kx fx));have hs10:=h2.size;have hov:∀ n,v.ownBlock=some n->wc.heap.size<=n:=fun n e=>(Hown.out n e).1
    have hc1:Chg (fun n=>n=ob\/v.ownBlock=some n) W (w10.setCell ⟨ob,0,none⟩ (.slice (some ⟨g,0,none⟩) ((Yhk p f (pre.map pj)).length+1) c')):=
     (((Chg.grown (Q:=fun n=>n=ob\/v.ownBlock=some n) hg9 (fun r e=>by cases e)).trans (Chg.grown (Q:=fun n=>n=ob\/v.ownBlock=some n) hgA (fun r e=>by cases e)) (fun _ _ e=>e)).trans (Chg.grown (Q:=fun n=>n=ob\/v.ownBlock=some n) h2 (fun r e=>.inr e)) (fun _ _ e=>e)).trans (Chg.set (Q:=fun n=>n=ob\/v.ownBlock=some n) w10 (p:=⟨ob,0,none⟩) (.inl rfl) _) (fun _ _ e=>e)
    have ho10:=(Chg.set (Q:=fun n=>n=ob) w10 (p:=⟨ob,0,none⟩) rfl (.slice (some ⟨g,0,none⟩) ((Yhk p f (pre.map pj)).length+1) c')).owns h1 (fun n e=>by have:=(h1.lt n e).1;show ¬ n=ob;omega);refine⟨?_,⟨⟨hc1.os,hc1.tape,hc1.output,hc1.size,fun n hn=>hc1.block n (by omega) (fun e=>?_)⟩,hc1.block cb (by omega) (fun e=>?_)⟩,?_⟩
    ·exact (((Vd hg9 (fun r e=>by cases e)).trans (Vd hgA (fun r e=>by cases e))).trans ((Vd h2 (fun r e=>Yhx hoA e)).trans (KeepsOthers.setCell w10 ⟨ob,0,none⟩ _))).from _
    ·rcases e with e|e
     ·omega
     ·have:=hov n e;omega
    ·have hcq:=Hcb.out;have hbb:=Hbb.out
     rcases e with e|e
     ·omega
     ·have:=hov cb e;omega
    ·refine Hfin.out _ _ (Hmore.out.trans (if_pos ho')) ⟨⟨_,Zs hb10 0 _,by simpa using ho10⟩,HI.out.chg.trans hc1 (fun n hn e=>?_)⟩
     rcases e with e|e
     ·exact e
     ·have:=hov n e;omega
   ·have ho':¬ z.op=14:=by omega
    gi_wp2_with fail;refine⟨(KeepsOthers.refl _).from _,⟨Below.refl _ _,rfl⟩,?_⟩;refine Hfin.out W _ (Hmore.out.trans (if_neg ho')) HI.out
  case done=>
   rintro D xs W hD hS hI hK;rw[hS] at hI;obtain⟨v,hv1,hv2⟩:=hI.blk;have hWs:=hI.chg.size;obtain⟨l2,l3,l4,l5⟩:=Hbb.out;have hcq:=Hcb.out;have hcW:Chg (fun n=>n=ob) w W:=(Chg.grown (Q:=fun n=>n=ob) Hgc.out (fun r e=>by cases e)).trans hI.chg (fun _ _ e=>e);obtain⟨ko,-⟩:=Za hv1;have ko0:=ko 0;have HcW:=hid hcW;have HI:=hid hI;have Hv2:=hid hv2;clear hI hcW hv1 hv2 ko l2 l3 l4 l5 hcq;go_wp2_with fail;refine⟨by simp,.inl ⟨_,_,rfl,run_takeDeferred hK,?_⟩⟩;have hcq:=Hcb.out;have hbb:=Hbb.out;have hcD:Chg (fun n=>n=D) W (W.putObj D (.deferred none)):=Chg.turned (Q:=fun n=>n=D) (Turned.putObj _ D _) rfl;refine⟨v,by simp[results,Tryz.f48,go_sem],v,rfl,?_,?_⟩
   ·refine Yii (hcD.owns Hv2.out (fun g e=>?_)) (by omega);show ¬ g=D;rintro rfl;obtain⟨cs,t,fr,hk⟩:=Yhx Hv2.out e;rw[hk] at hK
    cases hK
   ·exact Chg.all (Chg.trans (Q:=fun n=>n=ob\/n=D) (HcW.out.mono (fun n _ e=>.inl e)) hcD (fun n _ e=>.inr e)) (fun n hn e=>by omega)
  case stop=>
   rintro D c pre W hD hS hX hK;exact hX.elim

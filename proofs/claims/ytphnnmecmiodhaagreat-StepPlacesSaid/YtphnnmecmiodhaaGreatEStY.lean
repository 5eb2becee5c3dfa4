/- The machine of package step. Conditions in it. -/
import Derived.Test.YtphnnmecmiodhaaGreatESx
set_option maxHeartbeats 8000000
set_option maxRecDepth 100000
set_option linter.all false
namespace Go.Proofs.YtphnnmecmiodhaaGreat
open Lib(hid)
open Go.RowKit Go.Shelf
variable {wB:Bs} {lo ms:Nat} {vp:Value} {p:GProg} {W W':World} {g:SAd} {s:GM} {l:List GAct} {a:GAct} {A7:Option Addr} {d7:Nat} {args:List Str}
theorem infoPa:(Tryz.prog.info? 146).map (fun i=>(i.zero,i.size,i.bytes))=some (some (.pointer none),1,8):=by kernel_rfl
theorem Zrc {p:GProg} {a:GAct} {l:List (Nat×Str)} {i:Nat} {q:Nat×Str} (h:l[i]?=some q):Zcl p a (l.take (i+1))=Yz (Zcl p a (l.take i)) (q.1:Int) (a.has p q.2):=by
 unfold Zcl;rw[Ki h,List.foldl_append];rfl
theorem Zmg (h:Ma wB ms vp W g s) {f:Int} {va:Value} (h64:64<=s.acts.length):Calls Tryz.prog 180 #[.pointer (some ⟨g.m,0,none⟩),.int .i64 f,va] W (MOut wB ms vp W g { s with stop:=5 }):=by
 obtain⟨A,c,e,h1,h2,-,-⟩:=Zz h.row;have m2:W.cell? ⟨g.m,2,none⟩=some (.slice A s.acts.length c):=by rw[<-h.len,<-e];exact h.cell 2
 have m3:W.cell? ⟨g.m,3,none⟩=some (.int .u8 s.stop):=h.cell 3;have f3:=(Za h.blk).2 3;obtain⟨q1,q2⟩:=h.stopAt 5;have Hq:=hid (And.intro q1 q2);have h64':(64:Int)<=(s.acts.length:Int):=by omega
 clear h e h1 h2 q1 q2;go_enter Tryz.func180,Tryz.ntmps180;go_wp2_with fail
 (try simp only[Exit.inBlock,Exit.then])
 refine bodyPost_ret (results_none rfl _ _ _) rfl ?_;exact⟨rfl,g,Hq.out⟩
theorem Zor (E:StE wB lo ms vp p) (h:Ma wB ms vp W g s) (ha:s.acts=l++[a]) (h64:¬ 64<=s.acts.length) {f:Nat} {x:GFun} (hx:p[f]?=some x) (hl:x.params.length=args.length) (hl8:args.length<=8) (hA:∀ W',W.grownBy W' none->StrsAt W' wB.heap.size (.slice A7 args.length d7) args):
  Calls Tryz.prog 180 #[.pointer (some ⟨g.m,0,none⟩),.int .i64 f,.slice A7 args.length d7] W (MOut wB ms vp W g (s.enter p f args)):=by
 unfold GM.enter;rw[if_neg h64,X1 ha];obtain⟨Ag,cg,eg,hn1,hn2,-,-⟩:=Zz h.row;have hlen:=h.len;have m2:W.cell? ⟨g.m,2,none⟩=some (.slice Ag s.acts.length cg):=by rw[<-h.len,<-eg];exact h.cell 2
 have h64':¬ (64:Int)<=(s.acts.length:Int):=by omega
 obtain⟨gb,c,ad,e1,e2,e3,e4,e5,c1,c2,c3⟩:=h.top ha;obtain⟨pn,hpn⟩:∃ pn,pn=Zmp p f:=⟨_,rfl⟩
 have hpl:pn.length=args.length:=by rw[hpn,Ke hx,List.length_map,hl]
 have Hpa:=hid (show ∀ W',W.grownBy W' none->Calls Tryz.prog 46 #[.pointer (some ⟨ms,0,none⟩),.int .i64 f] W' (fun e w'=>∃ v,e=.returned v/\w'.ownsRow W'.heap.size 3 1 v pn.length (pn.map Z4)/\W'.grownBy w' none) from fun W' hg=>by
  have:=Zmh (E.mapAt (h.grow hg)) hx
  rw[<-Ke hx,<-hpn] at this
  exact this)
 have hpb:∀ y∈pn,y<=9223372036854775807:=fun y hy=>by
  rw[hpn,Ke hx] at hy;obtain⟨t,_,rfl⟩:=List.mem_map.1 hy;have h5:=(E.ok.lens (Lf p.length) (SLe.refl _)).1;have:=List.idxOf_le_length (l:=(Zh p p.length).vars) (a:=(f,t));omega
 have Hpb:=hid hpb;have Hh:=hid (fun (W':World) (hg:W.grownBy W' none) (t:Str)=>Uj E (h.grow hg) ha t);have Ht:=hid (fun (W':World) (hg:W.grownBy W' none)=>Vo (h.grow hg) ha e4)
 have HSc:=hid (show ∀ W',W.grownBy W' none->W'.cell? ⟨g.m,0,none⟩=some (.pointer (some ⟨ms,0,none⟩))/\W'.cell? ⟨ad.1,0,none⟩=some (.int .i64 a.pt.1)/\W'.cell? ⟨ad.1,1,none⟩=some (.int .i64 a.pt.2.1)/\W'.cell? ⟨ad.1,2,none⟩=some (.int .i64 a.pt.2.2)/\W'.heap[g.m]?=some (.cells (Vx ms vp g s) 145 (0,0))/\W'.ownsRow wB.heap.size 146 1 (.slice Ag s.acts.length cg) s.acts.length (g.av.map fun a=>Zgq a.1) from fun W' hg=>by
  have h':=h.grow hg
  obtain⟨gb',c',ad',f1,f2,f3,f4,f5,d1,d2,d3⟩:=h'.top ha
  rw[e4] at f4
  cases f4
  refine⟨h'.cell 0,(Za d2).1 0,(Za d2).1 1,(Za d2).1 2,h'.blk,?_⟩
  have:=h'.row
  rw[eg,hlen] at this
  exact this)
 have HA:=hid hA;have H0:=hid h;have Heg:=hid (show g.v=.slice Ag s.acts.length cg by rw[eg,hlen]);have Hpn:=hid hpn;have hgm:=Ze h.blk;have hwB:=h.chg.size;obtain⟨W2,hW2⟩:∃ W2:World,W2=(W.alloc (Z7 encZ Yf ([]:List (Int×GVal)))).alloc (.cells #[.int .i64 f,.int .i64 0,.int .i64 0,.map (some W.heap.size)] 149):=⟨_,rfl⟩
 have hg2:W.grownBy W2 none:=by rw[hW2];exact Zd (Lc W _ none) _
 have hb1:W2.heap[W.heap.size]?=some (Z7 encZ Yf ([]:List (Int×GVal))):=by rw[hW2];exact Zc (La W _) _
 have hb2:W2.heap[W.heap.size+1]?=some (.cells #[.int .i64 f,.int .i64 0,.int .i64 0,.map (some W.heap.size)] 149 (0,0)):=by
  rw[hW2];have:=La (W.alloc (Z7 encZ Yf ([]:List (Int×GVal)))) (.cells #[.int .i64 f,.int .i64 0,.int .i64 0,.map (some W.heap.size)] 149);simpa using this
 have Hg2:=hid hg2;have Hb:=hid (And.intro hb1 hb2);have hmk:∀ w:World,(Instr.makeMap 147 none).run Tryz.prog w=.ok (.map (some w.heap.size)) (w.alloc (Z7 encZ Yf ([]:List (Int×GVal)))):= @run_makeMap Tryz.prog 147;obtain⟨N,hN⟩:∃ N,N=s.acts.length:=⟨_,rfl⟩
 rw[<-hN] at m2 h64' HSc Heg;have hN64:N<64:=by omega
 have HN:=hid (And.intro hN hlen);clear h E hx hl e1 e2 e3 e4 e5 c1 c2 c3 hpb hA eg hn1 hn2 hlen hpn hg2 hb1 hb2 ha h64 hN;go_enter Tryz.func180,Tryz.ntmps180;go_upto_region 3 with (fail)
 rw[<-hW2];clear hW2 hmk m2;obtain⟨m0,-⟩:=HSc.out _ Hg2.out;have hp2:=Hpa.out _ Hg2.out;go_wp2_with (go_at_call 46;refine hp2.mono ?_;rintro e w3 ⟨v3,rfl,ho3,hg3⟩;obtain⟨A3,c3,rfl,-,-,-,-⟩:=Zz ho3);have Hg3:=hid (Zb Hg2.out hg3);have Hb3:=hid (And.intro ((hg3.block _ (Ze Hb.out.1) (by simp)).trans Hb.out.1) ((hg3.block _ (Ze Hb.out.2) (by simp)).trans Hb.out.2));have hw2:W.heap.size+1<W2.heap.size:=Ze Hb.out.2;have Hrow:=hid (show ∀ wr,Chg (fun n=>n=W.heap.size) w3 wr->SlAt natR 1 wr wr.heap.size (.slice A3 pn.length c3) pn from fun wr hc=>Ztc (hc.owns ho3 (fun g' e q=>by have:=(ho3.lt g' e).1;omega)) Hpb.out);have Hgr:=hid (show ∀ wr,Chg (fun n=>n=W.heap.size) w3 wr->W.grownBy wr none from fun wr hc=>Chg.after Hg3.out hc (fun n hn q=>by omega));clear hg3 ho3 hp2 m0 Hpa hw2;go_loopw [30] (fun s30 wr=>∃ i:Nat,i<=pn.length/\s30=.int .i64 i/\Hid (wr.heap[W.heap.size]?=some (Z7 encZ Yf (Zcl p a ((pn.zip args).take i))))/\Hid (Chg (fun n=>n=W.heap.size) w3 wr)) (fun s30 _=>pn.length-(intOf s30).toNat)
 case atStart=>exact⟨0,Ln _,rfl,hid (by simpa [Zcl] using Hb3.out.1),hid (Chg.refl _ _)⟩
 case round=>
  obtain⟨i,hi,rfl,hmb,hch⟩:=hrel
  by_cases hil:i<pn.length
  ·obtain⟨y,g3,o3,hy,rfl,hg3l,hyc,-⟩:=(Hrow.out wr hch.out).at_ hil;obtain⟨t,ga,oa,ht,rfl,hgl,htc,-⟩:=(HA.out wr (Hgr.out wr hch.out)).at_ (show i<args.length by omega);rw[Nat.mul_one] at hyc htc;have hab:wr.heap[W.heap.size+1]?=_:=hch.out.at_ Hb3.out.2 (by omega);have d3:wr.cell? ⟨W.heap.size+1,3,none⟩=some (.map (some W.heap.size)):=(Za hab).1 3;have hia:i<args.length:=by omega
   have hz:(pn.zip args)[i]?=some (y,t):=List.getElem?_zip_eq_some.2 ⟨hy,ht⟩;have Hm:=hid (Zrc (p:=p) (a:=a) hz)
   have Hl:=hid (show ∀ w4,wr.grownBy w4 none->w4.cell? ⟨W.heap.size+1,3,none⟩=some (.map (some W.heap.size))/\w4.cell? ⟨ga,oa+i,none⟩=some (.string ⟨t.toArray⟩)/\(Instr.mapUpdate 147 (.map (some W.heap.size)) (.int .i64 y) (.agg #[.int .u8 (a.has p t).kind,.int .i64 (a.has p t).obj,.int .i64 (a.has p t).n])).run Tryz.prog w4=.ok () (w4.putObj W.heap.size (Z7 encZ Yf (Yz (Zcl p a ((pn.zip args).take i)) (y:Int) (a.has p t))))/\
                     (w4.putObj W.heap.size (Z7 encZ Yf (Yz (Zcl p a ((pn.zip args).take i)) (y:Int) (a.has p t)))).heap[W.heap.size]?=some (Z7 encZ Yf (Yz (Zcl p a ((pn.zip args).take i)) (y:Int) (a.has p t)))/\Chg (fun n=>n=W.heap.size) w3 (w4.putObj W.heap.size (Z7 encZ Yf (Yz (Zcl p a ((pn.zip args).take i)) (y:Int) (a.has p t)))) from fun w4 hg=>by
                      have hb':=(hg.block _ (Ze hmb.out) (by simp)).trans hmb.out
                      refine⟨(Lj (hg.block _ (Ze hab) (by simp))).trans d3,?_,V5 (P:=Tryz.prog) (keyZ Tryz.underlying3) Tryz.underlying147 hb' _ _,Xt hb' _,?_⟩
                      ·have hgl2:ga<wr.heap.size:=by have:=(Hgr.out wr hch.out).size;omega
                       exact (Lj (hg.block _ hgl2 (by simp))).trans htc
                      ·exact (hch.out.trans (Chg.grown (Q:=fun n=>n=W.heap.size) hg (fun r e=>by cases e)) (fun _ _ e=>e)).trans (Chg.turned (Q:=fun n=>n=W.heap.size) (Turned.putObj w4 W.heap.size _) rfl) (fun _ _ e=>e))
   obtain⟨xv,hxv⟩:∃ xv,xv=a.has p t:=⟨_,rfl⟩
   have Hh1:=hid (fun (w4:World) (hg:wr.grownBy w4 none)=>Hh.out w4 (Zb (Hgr.out wr hch.out) hg) t);rw[<-hxv] at Hl Hm Hh1;unfold Yf at Hh1;have hgR:=Lb wr none;clear hxv hz ht hy hab hmb hch;go_upto_region 6 with (fail)
   go_region_law ((go_simp;go_at_call 176;first|(refine (Hh1.out _ (Zf hgR)).mono ?_;rintro e w4 ⟨rfl,hg4⟩;obtain⟨r3,rs,hrun,-⟩:=Hl.out _ (Zb (Zf hgR) hg4);have HgA:=hid (Zb (Zf hgR) hg4);clear hg4)|(refine (Hh1.out _ hgR).mono ?_;rintro e w4 ⟨rfl,hg4⟩;obtain⟨r3,rs,hrun,-⟩:=Hl.out _ hg4;have HgA:=hid hg4;clear hg4)))
   all_goals (go_wp2_with fail;go_roundw)
   all_goals first
    |(case rel=>exact⟨i+1,by omega,by go_num,hid (by rw[Hm.out];exact (Hl.out _ HgA.out).2.2.2.1),hid (Hl.out _ HgA.out).2.2.2.2⟩)
    |skip
   all_goals (simp[intOf];omega)
  ·obtain rfl:i=pn.length:=by omega
   rw[List.take_of_length_le (by rw[List.length_zip];omega)] at hmb;have hgr:=Hgr.out wr hch.out;obtain⟨m0,p0,p1,p2,hbm,hrw⟩:=HSc.out wr hgr;have hab:wr.heap[W.heap.size+1]?=_:=hch.out.at_ Hb3.out.2 (by omega);have ht:=Ht.out wr hgr;have m4:wr.cell? ⟨g.m,4,none⟩=some (.int .i64 s.ent.1.1):=(Za hbm).1 4;have m5:wr.cell? ⟨g.m,5,none⟩=some (.int .i64 s.ent.1.2.1):=(Za hbm).1 5;have m6:wr.cell? ⟨g.m,6,none⟩=some (.int .i64 s.ent.1.2.2):=(Za hbm).1 6;have m7:wr.cell? ⟨g.m,7,none⟩=some (.int .i64 s.ent.2):=(Za hbm).1 7;have m8:wr.cell? ⟨g.m,8,none⟩=some (.bool s.did):=(Za hbm).1 8;have f4:=(Za hbm).2 4;have f5:=(Za hbm).2 5;have f6:=(Za hbm).2 6;have f7:=(Za hbm).2 7;have f8:=(Za hbm).2 8;have Hx:=hid (And.intro hmb.out (And.intro hab hbm));have Hgw:=hid hgr;have Hrw:=hid hrw;clear hi hil hmb hch hgr hbm hrw hab m0;go_upto_region 9 with (go_at_call 78;refine ht.mono ?_;rintro e w4 ⟨rfl,n4,rfl⟩)
   clear p0 p1 p2 m4 m5 m6 m7 m8 f4 f5 f6 f7 f8 ht;obtain⟨w5,hw5⟩:∃ w5:World,w5=(((((wr.drewN n4).setCell ⟨g.m,4,none⟩ (.int .i64 a.pt.1)).setCell ⟨g.m,5,none⟩ (.int .i64 a.pt.2.1)).setCell ⟨g.m,6,none⟩ (.int .i64 a.pt.2.2)).setCell ⟨g.m,7,none⟩ (.int .i64 f)).setCell ⟨g.m,8,none⟩ (.bool true):=⟨_,rfl⟩
   rw[<-hw5];obtain⟨s1,hs1⟩:∃ s1:GM,s1={ s with ent:=(a.pt,f),did:=true }:=⟨_,rfl⟩
   have k1:=Zs (show (wr.drewN n4).heap[g.m]?=_ from Hx.out.2.2) 4 (.int .i64 a.pt.1);have k2:=Zs k1 5 (.int .i64 a.pt.2.1);have k3:=Zs k2 6 (.int .i64 a.pt.2.2);have k4:=Zs k3 7 (.int .i64 f);have k5:=Zs k4 8 (.bool true);have b5:w5.heap[g.m]?=some (.cells (Vx ms vp g s1) 145 (0,0)):=by
    rw[hw5,hs1];simpa [Vx] using k5
   have c5:Chg (fun n=>n=g.m) wr w5:=by
    rw[hw5];exact (Chg.grown (Q:=fun n=>n=g.m) (Zg (Lb wr none) n4) (fun r e=>by cases e)).trans (((((Chg.set (Q:=fun n=>n=g.m) (wr.drewN n4) (p:=⟨g.m,4,none⟩) rfl _).trans (Chg.set (Q:=fun n=>n=g.m) _ (p:=⟨g.m,5,none⟩) rfl _) (fun _ _ e=>e)).trans (Chg.set (Q:=fun n=>n=g.m) _ (p:=⟨g.m,6,none⟩) rfl _) (fun _ _ e=>e)).trans (Chg.set (Q:=fun n=>n=g.m) _ (p:=⟨g.m,7,none⟩) rfl _) (fun _ _ e=>e)).trans (Chg.set (Q:=fun n=>n=g.m) _ (p:=⟨g.m,8,none⟩) rfl _) (fun _ _ e=>e)) (fun _ _ e=>e)
   have r5:=c5.owns Hrw.out (fun k e=>by
    obtain⟨cs,hh⟩:=Vh Hrw.out e
    exact X4 hh Hx.out.2.2 (by decide))
   have n2:w5.cell? ⟨g.m,2,none⟩=some (.slice Ag N cg):=by
    rw[(Za b5).1 2,<-Heg.out];rfl
   have hgl5:g.m<w5.heap.size:=Ze b5;have hwl5:wB.heap.size<=w5.heap.size:=by have:=c5.size;have:=Hgw.out.size;omega
   have hnm:some g.m≠(Value.slice Ag N cg).ownBlock:=fun e=>by
    obtain⟨cs,hh⟩:=Vh r5 e.symm;exact X4 hh b5 (by decide) rfl
   have hlo:∀ n,(Value.slice Ag N cg).ownBlock=some n->n<W.heap.size:=fun n e=>(H0.out.row.lt n (by rw[Heg.out];exact e)).2
   have Hlo:=hid hlo;have Hb5:=hid (And.intro b5 (And.intro c5 hs1));have Hr5:=hid r5;clear k1 k2 k3 k4 k5 b5 c5 r5 hs1 hw5 hlo;go_wp2_with (refine Zck rfl _ _ 143 rfl wB.heap.size 146 _ 1 8 Tryz.underlying143 infoPa rfl (by decide) (.slice Ag N cg) _ N rfl (Hr5.out.alloc _) w5.heap.size [.pointer (some ⟨W.heap.size+1,0,none⟩)] rfl (by simp[Value.oneCell']) rfl _ _ (La _ _) rfl (by unfold maxLen;omega) (by omega) (by simp;omega) ?_;intro G cap w6 ho6 hg6 hor;have hb6:=(hg6.block g.m (by simp;omega) hnm).trans ((Below.heap_alloc w5 _ g.m hgl5).trans Hb5.out.1);have x1:w6.cell? ⟨g.m,2,none⟩=some g.v:=(Za hb6).1 2;have x2:w6.frozen? ⟨g.m,2,none⟩=false:=(Za hb6).2 2;have Hb6:=hid hb6;have Ho:=hid ho6;have Hg:=hid hg6;have Hor:=hid hor;clear hb6 ho6 hg6 hor);go_end0;obtain⟨b5,c5,hs1⟩:=Hb5.out;have hGm:G≠g.m:=by
    obtain⟨cs,hh⟩:=Vh Ho.out (show (Value.slice (some ⟨G,0,none⟩) (N+1) cap).ownBlock=some G from rfl);exact X4 hh Hb6.out (by decide)
   have c67:Chg (fun n=>n=g.m) w6 (w6.setCell ⟨g.m,2,none⟩ (.slice (some ⟨G,0,none⟩) (N+1) cap)):=Chg.set (Q:=fun n=>n=g.m) w6 (p:=⟨g.m,2,none⟩) rfl _;have hfresh:∀ n o,W.heap.size<=n->n≠g.m->wr.heap[n]?=some o->(w6.setCell ⟨g.m,2,none⟩ (.slice (some ⟨G,0,none⟩) (N+1) cap)).heap[n]?=some o:=fun n o h1 h2 h3=>by
    refine c67.at_ ?_ h2;have h4:=c5.at_ h3 h2;exact (Hg.out.block n (by simp;have:=Ze h4;omega) (fun e=>by have:=Hlo.out n e.symm;omega)).trans ((Below.heap_alloc w5 _ n (Ze h4)).trans h4)
   have hgmW:g.m<W.heap.size:=Ze H0.out.blk;have hb7:=Zs Hb6.out 2 (.slice (some ⟨G,0,none⟩) (N+1) cap);obtain⟨q1,q2⟩:=H0.out.pushA (v':=.slice (some ⟨G,0,none⟩) (N+1) cap) (ad:=(W.heap.size+1,W.heap.size)) (x:=⟨(f,0,0),Zcl p a (pn.zip args)⟩) (s':={ s with acts:=s.acts++[⟨(f,0,0),Zcl p a (pn.zip args)⟩],ent:=(a.pt,f),did:=true }) rfl rfl
    ((Chg.trans (Q:=fun n=>n=g.m\/g.v.ownBlock=some n) (Q':=fun n=>n=g.m) (Chg.trans (Q':=fun n=>g.v.ownBlock=some n) (Chg.trans (Q':=fun n=>n=g.m) (Chg.grown Hgw.out (fun r e=>by cases e)) c5 (fun _ _ e=>.inl e)) ((Chg.alloc (fun n=>g.v.ownBlock=some n) w5 _).trans (Chg.grown (Q:=fun n=>g.v.ownBlock=some n) Hg.out (fun r e=>by rw[Heg.out];exact e)) (fun _ _ e=>e)) (fun _ _ e=>.inr e)) c67 (fun _ _ e=>.inl e)))
    (by
     rw[hs1] at hb7
     simpa [Vx] using hb7)
    (by
     have hN':g.av.length=N:=by have:=HN.out.1;have:=HN.out.2;omega
     rw[hN']
     exact c67.owns Ho.out (fun k e=>by
      injection e with e
      simp only at e
      omega))
    (fun n e=>by
     injection e with e
     simp only at e
     subst e
     rcases Hor.out with e|e
     ·exact .inl (by rw[Heg.out];exact e)
     ·right
      have e':G=w5.heap.size+1\/G=w5.heap.size:=by
       first
        |exact .inl (by simpa using e)
        |exact .inr (by simpa using e)
        |(right;omega)
      have:=c5.size
      have:=Hgw.out.size
      rcases e' with e'|e'<;>omega)
    (hfresh _ _ (by simp only;omega) (by simp only;omega) Hx.out.2.1) (hfresh _ _ (by simp only;omega) (by simp only;omega) Hx.out.1) (by simp only;omega) (by simp only;omega)
   rw[Hpn.out] at q1;exact⟨rfl,_,q1,q2⟩

/- The contracts of body. Conditions in it. -/
import Derived.Test.YtlcogjllnbfneaaGreatESno
import Derived.Test.YtlcogjllnbfneaaGreatESndND
set_option maxHeartbeats 2000000
set_option maxRecDepth 100000
set_option linter.all false
namespace Go.Proofs.YtlcogjllnbfneaaGreat
open Lib(hid)
section
open Go.RowKit Go.Shelf
theorem Zgp (f:GFun) (b B c:Nat) (w:World) (k i:Nat) (x:GIns) (va vl:Value) (h:Body w B b f) (hB:B<=w.heap.size) (hc:w.cell? ⟨c,0,none⟩=some (.pointer (some ⟨b,0,none⟩))) (hcl:c<w.heap.size)
  (hi:InsAt w B x va vl) (hk:k<f.bk9.length) (hn:f.bk9.length<=65536) (hok:GOk (Xx (Zv f.bk9))):
  Calls Tryz.prog 135 #[.int .i64 k,.int .i64 i,Uh x va vl,.pointer (some ⟨c,0,none⟩)] w fun e w'=>e=.returned (.bool (Zcz f k i x))/\Below w.heap.size w w':=by
 obtain⟨A1,d1,A2,d2,S,S2,O,M,order,o,h⟩:=h;obtain⟨A4,d4,q4,_,_,_,_⟩:=hi.args.open_;obtain⟨A5,d5,q5,_,_,_,hL⟩:=hi.lb9.open_;subst q4;subst q5;obtain⟨j1,_⟩:=Za h.blk;have e2:w.cell? ⟨b,2,none⟩=some (.slice A2 f.bk9.length d2):=j1 2;have e4:w.cell? ⟨b,4,none⟩=some (.slice (some ⟨S2,0,none⟩) f.bk9.length f.bk9.length):=j1 4;obtain⟨A2',d2',hAe,m2,hl2,hc2,hA⟩:=h.fn.bk9.open_;simp only[Value.slice.injEq] at hAe;obtain⟨rfl,_,rfl⟩:=hAe;have hlt:=h.lt;have hgl:(Xx (Zv f.bk9)).length=f.bk9.length:=by rw[Xd,Zr]
 obtain⟨l,hl⟩:∃ l,(Xx (Zv f.bk9))[k]?=some l:=⟨_,Ld (by rw[hgl];exact hk)⟩
 obtain⟨AS,dS,hAS,_,_,_,hSp⟩:=h.pred.open_;rw[hgl] at hAS;simp only[Value.slice.injEq] at hAS;obtain⟨rfl,_,rfl⟩:=hAS;obtain⟨l',bS,offS,hl',eS,hbS,hrS⟩:=hSp.at_ (show k<(Xx (Zv f.bk9)).length by omega);rw[hl] at hl'
 cases hl'
 cases eS
 obtain⟨vr,hvr,hrow⟩:=hrS;obtain⟨AR,dR,rfl,mR,hlR,hcR,hR⟩:=hrow.open_;have hllt:∀ p∈l,p<f.bk9.length:=fun p hp=>by have:=hok.lt l (Ll hl) p hp;rwa [hgl] at this
 have hll:l.length<=65536:=hok.rowLen (Ll hl);have hlle:=hi.labelsLe;have hwN:=La w (.cells #[.int .u8 x.op,.string ⟨x.dst.toArray⟩,.string ⟨x.a.toArray⟩,.string ⟨x.b.toArray⟩,.int .i64 x.n,.string ⟨x.fn.toArray⟩,.slice A4 x.args.length d4,.slice A5 x.lb9.length d5] 25);obtain⟨W,hW⟩:∃ W:World,W=w.alloc (.cells #[.int .u8 x.op,.string ⟨x.dst.toArray⟩,.string ⟨x.a.toArray⟩,.string ⟨x.b.toArray⟩,.int .i64 x.n,.string ⟨x.fn.toArray⟩,.slice A4 x.args.length d4,.slice A5 x.lb9.length d5] 25):=⟨_,rfl⟩
 have hbW:Below w.heap.size w W:=by rw[hW];exact (Below.refl _ w).alloc (Lf _) _
 have hsW:W.heap.size=w.heap.size+1:=by rw[hW];simp
 rw[<-hW] at hwN;have i0:W.cell? ⟨w.heap.size,0,none⟩=some (.int .u8 x.op):=(Za hwN).1 0;have i7:W.cell? ⟨w.heap.size,7,none⟩=some (.slice A5 x.lb9.length d5):=(Za hwN).1 7;have c0':W.cell? ⟨c,0,none⟩=some (.pointer (some ⟨b,0,none⟩)):=cur hbW (by omega) hc;have e2':W.cell? ⟨b,2,none⟩=some (.slice A2 f.bk9.length d2):=cur hbW (by omega) e2;have e4':W.cell? ⟨b,4,none⟩=some (.slice (some ⟨S2,0,none⟩) f.bk9.length f.bk9.length):=cur hbW (by omega) e4;have f4':W.cell? ⟨S2,k,none⟩=some (.slice AR l.length dR):=cur hbW (by omega) (by simpa using hvr);have HbW:=hid hbW;have HL:=hid (hi.lb9.below strR.keeps hbW hB);have HR:=hid (hrow.below natR.keeps hbW hB);have HA:=hid (h.fn.bk9.below blkR.keeps hbW hB);have hlabLe:∀ p,p<f.bk9.length->(Yo f.bk9 p).length<=9223372036854775807:=fun p hp=>by
  obtain⟨y,b1,off1,hy,_,_,hr1⟩:=hA.at_ hp;obtain⟨A3,d3,hyy,m3,e0,e1⟩:=Yg hr1;have:=hyy.label;simpa [Yo,hy] using this
 have hlLe:∀ s∈x.lb9,s.length<=9223372036854775807:=fun s hs=>by
  obtain⟨j,hj,e⟩:=List.mem_iff_getElem.1 hs;obtain⟨y,_,_,h1,_,_,h2⟩:=hL.at1 hj;rw[List.getElem?_eq_getElem hj,e] at h1
  cases h1
  exact h2.2
 have Hle:=hid hlabLe;have HlLe:=hid hlLe;have Hllt:=hid hllt;have Hl:=hid hl;clear hwN hvr hrow hR hSp hA h j1 hL hi e2 e4 hc hbW hllt hok hl hlabLe hlLe
 cases q1:x.op == 6 with
 |false=>
  have HR:=hid (show Zcz f k i x=false by simp[Zcz,q1]);have q2:=(op6 x.op).trans (congrArg not q1);simp only[Bool.not_true,Bool.not_false] at q2;simp only[Uh];go_enter Tryz.func135,Tryz.ntmps135;go_upto_region 1 with (fail)
  rw[<-hW];clear hW;go_wp2;go_ret;exact⟨by rw[HR.out];rfl,HbW.out⟩
 |true=>
  have q2:=(op6 x.op).trans (congrArg not q1);simp only[Bool.not_true,Bool.not_false] at q2;simp only[Uh];go_enter Tryz.func135,Tryz.ntmps135;go_upto_region 1 with (fail)
  rw[<-hW];clear hW;go_wp2;go_loopw [24,8] (fun s24 s8 wr=>∃ (j:Nat) (A8:Option Addr) (c8:Nat),s24=.int .i64 j/\s8=.slice A8 j c8/\j<=l.length/\Hid (wr.ownsRow W.heap.size 9 1 (.slice A8 j c8) j (((l.take j).map (Yo f.bk9)).map encS))/\Hid (Below W.heap.size W wr)) (fun s24 _ _=>l.length-(intOf s24).toNat)
  case atStart=>exact⟨0,none,0,rfl,rfl,Ln _,World.ownsRow_nil _ _ _ _,Below.refl _ _⟩
  case round=>
   obtain⟨j,A8,c8,rfl,rfl,hjl,ho,hbr⟩:=hrel;have hlow:=hbr.out;have hszr:=hlow.size
   by_cases hl2:j<l.length
   ·obtain⟨p,bR,offR,hp,rfl,hbR,hr7⟩:=HR.out.at1 hl2;have hplt:=Hllt.out p (Ll hp);obtain⟨y,b1,off1,hy,rfl,hbB1,hr1⟩:=HA.out.at_ hplt;obtain⟨A3,d3,hyy,m3,e0,e1⟩:=Yg hr1;have hlab:Yo f.bk9 p=y.label:=by simp[Yo,hy]
    have c7:=cur hlow (by omega) hr7.1;replace e0:=cur hlow (by omega) e0;have c0w:=cur hlow (by omega) c0';have e2w:=cur hlow (by omega) e2';have Ho:=hid (ho.out.alloc (.cells #[.string ⟨y.label.toArray⟩] 9));have c3:(wr.alloc (.cells #[.string ⟨y.label.toArray⟩] 9)).cell? ⟨wr.heap.size,0,none⟩=some (.string ⟨y.label.toArray⟩):=(Za (La wr _)).1 0;have htk:((l.take (j+1)).map (Yo f.bk9)).map encS=((l.take j).map (Yo f.bk9)).map encS++[.string ⟨y.label.toArray⟩]:=by
     rw[List.take_add_one,hp];simp[hlab,encS]
    have Htk:=hid htk;have Hp:=hid hp;have hj8:j<=1099511627776:=by omega
    clear hr7 hr1 e1 hyy hy htk hp hlab;go_wp2_with (refine Jh rfl _ _ 23 rfl W.heap.size 9 _ 16 Tryz.underlying23 Zkm rfl _ _ j rfl Ho.out wr.heap.size (.string ⟨y.label.toArray⟩) rfl rfl c3 (by unfold maxLen;omega) (by omega) (by simp;omega) ?_;intro G cap w2 ho3 hg3 hor);go_roundw
    case rel=>
     refine⟨j+1,some ⟨G,0,none⟩,cap,by go_num,by go_num,by omega,hid (by rw[Htk.out];exact ho3),hid ?_⟩;exact Z1 (hbr.out.alloc (by omega) _) hg3 (by simp;omega) (fun r e=>(Ho.out.lt r e).1)
    case measure=>simp[intOf];omega
   ·have hj:j=l.length:=by omega
    subst hj;rw[List.take_length] at ho;have hLw:=HL.out.below strR.keeps hlow (show B<=W.heap.size by omega);have hi7:=cur hlow (by omega) i7;have hclo:=Ux hLw (show x.lb9.length*16<=140737488355328 by omega);clear hlow;go_upto_region 10 with (fail)
    refine hclo.mono ?_;rintro e w2 ⟨v2,rfl,ho2,hb2⟩;obtain⟨A9,d9,rfl,_,_,_,_⟩:=Z5 ho2;have ho':=ho.out.kept (Zj hb2) (by cases A8<;>simp[Value.ownBlock]);have hne:∀ g,(Value.slice A9 x.lb9.length d9).ownBlock=some g->(Value.slice A8 l.length c8).ownBlock≠some g:=fun g e e2=>by
     have h1:=(ho2.lt g e).1;have h2:=(ho.out.lt g e2).2;omega
    have hsz2:=hb2.size;have hlow2:Below w.heap.size w w2:=(HbW.out.trans (hbr.out.mono (by omega))).trans (hb2.mono (by omega));have Hlow2:=hid hlow2;have Ho2:=hid ho2;have hs1:=Zci (v:=.slice A8 l.length c8) (l:=l.map (Yo f.bk9)) (w:=w2) (base:=W.heap.size) (by rw[List.length_map];exact ho') (by rw[List.length_map];omega);have HoA:=hid ho.out;have Hbr:=hid hbr.out;clear ho' ho2 hb2 hlow2 hi7 hLw hclo ho hbr;go_upto_region 11 with (fail)
    repeat go_step
    refine hs1.mono ?_;rintro e w3 ⟨rfl,ho3,hg3⟩
    have ho4:=Ho2.out.kept hg3 (by
     by_cases e9:(Value.slice A9 x.lb9.length d9).ownBlock=none
     ·exact .inl e9
     ·right
      obtain⟨g,e9⟩:=Option.ne_none_iff_exists'.1 e9
      rw[e9]
      exact fun e=>hne g e9 e.symm)
    have hs2:=Zci (v:=.slice A9 x.lb9.length d9) (l:=x.lb9) (w:=w3) (base:=wr.heap.size) ho4 (by omega);have hsz3:=hg3.size;have Hlow3:=hid (Z1 Hlow2.out hg3 (by have:=Hlow2.out.size;omega) (fun r e=>by have:=(HoA.out.lt r e).1;omega));have Ho3:=hid ho3;clear hs1 ho4 ho3 hg3;go_upto_region 12 with (fail)
    repeat go_step
    refine hs2.mono ?_;rintro e w4 ⟨rfl,ho5,hg4⟩
    have ho6:=Ho3.out.kept hg4 (by
     by_cases e9:(Value.slice A8 l.length c8).ownBlock=none
     ·exact .inl e9
     ·right
      obtain⟨g,e9⟩:=Option.ne_none_iff_exists'.1 e9
      rw[e9]
      exact fun e=>hne g e.symm e9)
    have hq1:StrsAt w4 w4.heap.size (.slice A8 l.length c8) (Qf (l.map (Yo f.bk9))):=Qa (n:=(l.map (Yo f.bk9)).length) ho6 (fun s hs=>by
     have:=(List.mem_mergeSort).1 hs
     obtain⟨p,hp,rfl⟩:=List.mem_map.1 this
     exact Hle.out p (Hllt.out p hp))
    have hq2:StrsAt w4 w4.heap.size (.slice A9 x.lb9.length d9) (Qf x.lb9):=Qa (n:=x.lb9.length) ho5 (fun s hs=>HlLe.out s ((List.mem_mergeSort).1 hs));have heq:=Zhu hq1 hq2;have Hlow4:=hid (Z1 Hlow3.out hg4 (by have:=Hlow3.out.size;omega) (fun r e=>by have:=(Ho2.out.lt r e).1;omega));have HR9:=hid (show Zcz f k i x= !(decide (Qf (l.map (Yo f.bk9))=Qf x.lb9)) by unfold Zcz Zni;rw[q1,Hl.out];rfl);obtain⟨D,hD⟩:∃ D:Bool,D=decide (Qf (l.map (Yo f.bk9))=Qf x.lb9):=⟨_,rfl⟩
    rw[<-hD] at heq HR9;clear hs2 ho5 ho6 hq1 hq2 hg4 hD;go_wp2_with (go_at_call 137;refine heq.mono ?_;rintro e w5 ⟨rfl,qn,rfl⟩);go_ret;exact⟨by rw[HR9.out];rfl,Zk (Zg (Zj Hlow4.out) _)⟩
theorem Zbm:∀ args w,(callFunc 135 args).run Tryz.prog w=.ok (.enter 135 args) w:=enters_of Tryz.func135 (by kernel_rfl) rfl
theorem Zkh (f:GFun) (b B:Nat) (w:World) (h:Body w B b f) (hB:B<=w.heap.size) (hn:f.bk9.length<=65536) (hok:GOk (Xx (Zv f.bk9))):
  Calls Tryz.prog 92 #[.pointer (some ⟨b,0,none⟩)] w fun e w'=>e=.returned (U9 (V7 f (Zcz f)))/\Below w.heap.size w w':=by
 have hb1:Below w.heap.size w (w.alloc (.cells #[.pointer (some ⟨b,0,none⟩)] 96)):=(Below.refl _ w).alloc (Lf _) _;have h1:=h.below hb1 hB;have hN:=La w (.cells #[.pointer (some ⟨b,0,none⟩)] 96);have hc0:=(Za hN).1 0
 have hfind:=Zdd f b B 135 #[.pointer (some ⟨w.heap.size,0,none⟩)] _ (Zcz f) (by simp;omega) h1 Zbm (fun k i y x va vl W hy hx hW hi=>by
  have:=Zgp f b B w.heap.size W k i x va vl (h1.below hW (by simp;omega)) (by have:=hW.size;simp at this;omega) ((hW.cell (p:=⟨w.heap.size,0,none⟩) (by simp)).trans hc0) (by have:=hW.size;simp at this;omega) hi (Le hy).1 hn hok
  exact this.mono fun e w' h=>⟨h.1,hW.trans (h.2.mono hW.size)⟩)
 obtain⟨⟨p,q⟩,hr⟩:∃ r:Option (Nat×Nat)×Unit,r.1=V7 f (Zcz f):=⟨(_,()),rfl⟩
 rw[<-hr] at hfind ⊢;clear h h1 hr hN hc0 hb1 hok;simp only[U9] at hfind;go_enter Tryz.func92,Tryz.ntmps92;go_wp2_with (go_at_call 130;refine hfind.mono ?_;rintro e w' ⟨rfl,hb'⟩);refine bodyPost_ret (v:=U9 p) (by simp[results,Tryz.results92,go_sem,U9]) rfl ⟨rfl,?_⟩;exact ((Below.refl _ w).alloc (Lf _) _).trans (hb'.mono (by simp))
end
section
open Go.RowKit Go.Shelf
attribute [local go_sem] Oper.semAt_some
def Zdi:Nat->Nat
 |17=>90
 |18=>91
 |19=>92
 |20=>93
 |_=>0
def encR (r:Nat):Array Value:= #[.int .u8 r,.func (.func (Zdi r)) #[] #[]]
def Yv:List Nat:=[17,18,19,20]
abbrev Zbg:Type:={ r:Nat // r∈Yv }
def encX (x:Zbg):Array Value:=encR x.1
theorem Zpg (n:Nat) (hn:1<=n) (l:Nat) (Kp:World->World->Prop) (J Jx:List Zbg->World->Prop)
  (hY:∀ pre x W,J pre W->pre.length<4->YieldAt Fence.wide (n-1) Tryz.prog l (encX x) W fun e W'=>
   (e=.returned (.bool true)/\J (pre++[x]) W'/\Kp W W')\/(e=.returned (.bool false)/\Jx (pre++[x]) W'))
  (W:World) (h0:J [] W):
  CallsIn Fence.wide n Tryz.prog 89 #[.func (.yield l) #[] #[]] W fun e W'=>(∃ v,e=.returned v)/\
   ((∃ xs,xs.map (·.1)=Yv/\J xs W')\/(∃ pre,(pre.map (·.1)<+:Yv)/\Jx pre W')):=by
 refine callsIn_of_wp Tryz.func89 rfl trivial ?_ rfl;simp only[Tryz.ntmps89,List.size_toArray,List.length_cons,List.length_nil,Nat.reduceAdd,Nat.reduceSub,Array.replicate_succ,Array.replicate_zero,List.push_toArray,List.append_toArray,List.nil_append,List.cons_append];have HY:=hid hY;clear hY;have hY17:=HY.out [] ⟨17,by simp[Yv]⟩ W h0 (by simp);rw[show encX ⟨17,by simp[Yv]⟩= #[.int .u8 17,.func (.func 90) #[] #[]] from rfl] at hY17;obtain⟨fn17,tmps17,assign17,body17,hy17,hR17⟩:=hY17;gi_wp2;refine hR17.mono ?_;clear hR17;rintro e W17 (⟨rfl,hJ17,-⟩|⟨rfl,hX⟩)
 rotate_left
 ·gi_wp2
  repeat (refine⟨(fun f hf=>by cases hf),?_⟩;gi_wp2)
  go_end0;exact⟨⟨_,rfl⟩,.inr ⟨_,⟨[18,19,20],rfl⟩,hX⟩⟩
 have hY18:=HY.out [⟨17,by simp[Yv]⟩] ⟨18,by simp[Yv]⟩ W17 hJ17 (by simp);rw[show encX ⟨18,by simp[Yv]⟩= #[.int .u8 18,.func (.func 91) #[] #[]] from rfl] at hY18;obtain⟨fn18,tmps18,assign18,body18,hy18,hR18⟩:=hY18;gi_wp2;refine hR18.mono ?_;clear hR18;rintro e W18 (⟨rfl,hJ18,-⟩|⟨rfl,hX⟩)
 rotate_left
 ·gi_wp2
  repeat (refine⟨(fun f hf=>by cases hf),?_⟩;gi_wp2)
  go_end0;exact⟨⟨_,rfl⟩,.inr ⟨_,⟨[19,20],rfl⟩,hX⟩⟩
 have hY19:=HY.out [⟨17,by simp[Yv]⟩,⟨18,by simp[Yv]⟩] ⟨19,by simp[Yv]⟩ W18 hJ18 (by simp);rw[show encX ⟨19,by simp[Yv]⟩= #[.int .u8 19,.func (.func 92) #[] #[]] from rfl] at hY19;obtain⟨fn19,tmps19,assign19,body19,hy19,hR19⟩:=hY19;gi_wp2;refine hR19.mono ?_;clear hR19;rintro e W19 (⟨rfl,hJ19,-⟩|⟨rfl,hX⟩)
 rotate_left
 ·gi_wp2
  repeat (refine⟨(fun f hf=>by cases hf),?_⟩;gi_wp2)
  go_end0;exact⟨⟨_,rfl⟩,.inr ⟨_,⟨[20],rfl⟩,hX⟩⟩
 have hY20:=HY.out [⟨17,by simp[Yv]⟩,⟨18,by simp[Yv]⟩,⟨19,by simp[Yv]⟩] ⟨20,by simp[Yv]⟩ W19 hJ19 (by simp);rw[show encX ⟨20,by simp[Yv]⟩= #[.int .u8 20,.func (.func 93) #[] #[]] from rfl] at hY20;obtain⟨fn20,tmps20,assign20,body20,hy20,hR20⟩:=hY20;gi_wp2;refine hR20.mono ?_;clear hR20;rintro e W20 (⟨rfl,hJ20,-⟩|⟨rfl,hX⟩)
 rotate_left
 ·gi_wp2
  repeat (refine⟨(fun f hf=>by cases hf),?_⟩;gi_wp2)
  go_end0;exact⟨⟨_,rfl⟩,.inr ⟨_,⟨[],rfl⟩,hX⟩⟩
 gi_wp2;go_end0;exact⟨⟨_,rfl⟩,.inl ⟨_,rfl,hJ20⟩⟩
theorem Zmv (n:Nat) (hn:1<=n) (Kp:World->World->Prop) (w:World):
  SeqStopsK Fence.wide n Tryz.prog 89 #[] encX Kp (fun xs=>xs.map (·.1)=Yv) (fun pre=>pre.map (·.1)<+:Yv) 4 w:=fun l J Jx W _ _ _ hY h0=>
 Zpg n hn l Kp J Jx hY W h0
theorem Ztd (w:World):Calls Tryz.prog 58 #[] w fun e w'=>e=.returned (.func (.func 89) #[] #[])/\w=w':=by
 go_enter Tryz.func58,Tryz.ntmps58;go_wp2;go_ret;exact⟨rfl,rfl⟩
theorem ask_any (r:Nat) (hr:r∈Yv) (f:GFun) (b B:Nat) (w:World) (h:Body w B b f) (hB:B<=w.heap.size) (hok:FOk f):
  Calls Tryz.prog (Zdi r) #[.pointer (some ⟨b,0,none⟩)] w fun e w'=>e=.returned (U9 (U3 f r))/\Below w.heap.size w w':=by
 simp only[Yv,List.mem_cons,List.not_mem_nil,or_false] at hr
 rcases hr with rfl|rfl|rfl|rfl
 ·exact Zht f b B w h hB hok.ne
 ·exact Zib f b B w h hB hok.of hok.ne
 ·exact Zkh f b B w h hB hok.of.len (GOk.back (Zv f.bk9) (by rw[Zr];exact hok.of.len))
 ·exact Zpb f b B w h hB hok
theorem Zob (r:Nat) (hr:r∈Yv):∀ args w,(callFunc (Zdi r) args).run Tryz.prog w=.ok (.enter (Zdi r) args) w:=by
 simp only[Yv,List.mem_cons,List.not_mem_nil,or_false] at hr
 rcases hr with rfl|rfl|rfl|rfl
 ·exact enters_of Tryz.func90 (by kernel_rfl) rfl
 ·exact enters_of Tryz.func91 (by kernel_rfl) rfl
 ·exact enters_of Tryz.func92 (by kernel_rfl) rfl
 ·exact enters_of Tryz.func93 (by kernel_rfl) rfl
theorem Zja {p:GProg} {r:Nat} (h:∀ j,j<p.length->∀ f,p[j]?=some f->U3 f r=none):Jn p r=none:=
 Zx fun j hj f hf=>by rw[h j hj f hf];rfl
theorem Ztk {p:GProg} {r i:Nat} {f:GFun} {q:Nat×Nat} (h:∀ j,j<i->∀ f,p[j]?=some f->U3 f r=none) (hf:p[i]?=some f) (hq:U3 f r=some q):Jn p r=some (i,q.1,q.2):=
 Zo (fun j hj f hf=>by rw[h j hj f hf];rfl) hf (by rw[hq];rfl)
theorem Zeh {p:GProg} (h0:(Yc p).1=0) (h:∀ r∈Yv,Jn p r=none):Y5 p=if 65536<Kc p\/65536<Jj p then (21,(0,0,0)) else (0,(0,0,0)):=by
 unfold Y5;rw[if_neg (by simp[h0])];have:(Zq [17,18,19,20] fun _ r=>(Jn p r).map fun pt=>(r,pt))=none:=Zx fun j hj r hr=>by
  rw[h r (List.mem_of_getElem? hr)];rfl
 rw[this]
theorem Zna {p:GProg} (h0:(Yc p).1=0) {ys:List Nat} {r:Nat} {pt:GPt} (hp:ys++[r]<+:Yv) (h:∀ r'∈ys,Jn p r'=none) (hr:Jn p r=some pt):Y5 p=(r,pt):=by
 unfold Y5;rw[if_neg (by simp[h0])];obtain⟨t,ht⟩:=hp;have:(Zq [17,18,19,20] fun _ r=>(Jn p r).map fun pt=>(r,pt))=some (r,pt):=by
  refine Zo (n:=ys.length) (x:=r) (fun j hj y hy=>?_) ?_ (by rw[hr];rfl)
  ·have e:Yv[j]?=some y:=hy;rw[<-ht,List.append_assoc,List.getElem?_append_left hj] at e;rw[h y (List.mem_of_getElem? e)];rfl
  ·have:Yv[ys.length]?=some r:=by rw[<-ht,List.append_assoc,List.getElem?_append_right (Nat.le_refl _)];simp
   exact this
 rw[this]
end
section
open Go.RowKit Go.Shelf
attribute [local go_sem] Oper.semAt_some
def Zlp (x:Nat):Value:=.pointer (some ⟨x,0,none⟩)
def Qv (L:Nat) (v:Value):Nat->Prop:=fun k=>k=L\/v.ownBlock=some k
structure CkI (w:World) (p:GProg) (R L k:Nat) (wr:World):Prop where
 low:Below w.heap.size w wr
 res:wr.heap[R]?=some (.cells #[.int .u8 0,.int .i64 0,.int .i64 0,.int .i64 0] 43 (0,0))
 row:∃ (v:Value) (ps:List Nat),wr.heap[L]?=some (.cells #[v] 95 (0,0))/\wr.ownsRow (L+1) 96 1 v k (ps.map Zlp)/\ps.length=k/\∀ (i x:Nat) (f:GFun),ps[i]?=some x->p[i]?=some f->Zez (Qv L v) wr x f
 l1:w.heap.size<=R
 l2:R<L
theorem CkI.lt {w:World} {p:GProg} {R L k:Nat} {wr:World} (h:CkI w p R L k wr):L<wr.heap.size:=by
 obtain⟨v,ps,h1,_⟩:=h.row;exact Ze h1
theorem CkI.grow {w:World} {p:GProg} {R L k:Nat} {wr wr':World} (h:CkI w p R L k wr) (hg:wr.grownBy wr' none):CkI w p R L k wr' where
 low:=Z1 h.low hg h.low.size (fun r e=>by cases e)
 res:=(hg.block _ (Ze h.res) (by simp)).trans h.res
 row:=by
  obtain⟨v,ps,h1,h2,h3,h4⟩:=h.row
  exact⟨v,ps,(hg.block _ (Ze h1) (by simp)).trans h1,h2.kept hg (by cases v.ownBlock<;>simp),h3,fun i x f hx hf w'' hw''=>
   h4 i x f hx hf w'' ((Agr.grown hg (fun r e=>by cases e)).trans hw'' (fun _ _ e=>e))⟩
 l1:=h.l1
 l2:=h.l2
theorem CkI.push {w:World} {p:GProg} {R L k:Nat} {wr wa w2:World} (h:CkI w p R L k wr) {v':Value} {ps:List Nat} (h1:wr.heap[L]?=some (.cells #[v'] 95 (0,0))) (h2:wr.ownsRow (L+1) 96 1 v' k (ps.map Zlp)) (h3:ps.length=k)
  (h4:∀ (i x:Nat) (f:GFun),ps[i]?=some x->p[i]?=some f->Zez (Qv L v') wr x f) (hg1:wr.grownBy wa none) {b:Nat} {f:GFun} (hf:p[k]?=some f) (hb:Zez (Qv L v') wa b f)
  (hg2:wa.grownBy w2 v'.ownBlock) {G cap:Nat} (ho:w2.ownsRow (L+1) 96 1 (.slice (some ⟨G,0,none⟩) (k+1) cap) (k+1) (ps.map Zlp++[Zlp b])) (hor:v'.ownBlock=some G\/wa.heap.size<=G):
  CkI w p R L (k+1) (w2.setCell ⟨L,0,none⟩ (.slice (some ⟨G,0,none⟩) (k+1) cap)):=by
 have hl:=h.lt;have hown:=h2.lt;have hl1:=h.l1;have hl2:=h.l2;have hs1:=hg1.size;have hs2:=hg2.size;have hLo:v'.ownBlock≠some L:=fun e=>by have:=(hown L e).1;omega
 have hRo:v'.ownBlock≠some R:=fun e=>by have:=(hown R e).1;omega
 have hset:(w2.setCell ⟨L,0,none⟩ (.slice (some ⟨G,0,none⟩) (k+1) cap)).heap.size=w2.heap.size:=by simp[World.setCell]
 have hblk2:w2.heap[L]?=some (.cells #[v'] 95 (0,0)):=(hg2.block L (by omega) (fun e=>hLo e.symm)).trans ((hg1.block L hl (by simp)).trans h1);have hL3:(w2.setCell ⟨L,0,none⟩ (.slice (some ⟨G,0,none⟩) (k+1) cap)).heap[L]?=some (.cells #[.slice (some ⟨G,0,none⟩) (k+1) cap] 95 (0,0)):=Zs hblk2 0 _;have hag:Agr (Qv L v') wa (w2.setCell ⟨L,0,none⟩ (.slice (some ⟨G,0,none⟩) (k+1) cap)):=
  ⟨by rw[hset];exact hs2,fun i hi hn=>(Below.heap_setCell w2 _ _ i (fun e=>hn (.inl e))).trans (hg2.block i hi (fun e=>hn (.inr e.symm)))⟩
 have hnew:∀ {x:Nat} {f:GFun},Zez (Qv L v') wa x f->Zez (Qv L (.slice (some ⟨G,0,none⟩) (k+1) cap)) (w2.setCell ⟨L,0,none⟩ (.slice (some ⟨G,0,none⟩) (k+1) cap)) x f:=fun hx w'' hw''=>
  hx w'' (hag.trans hw'' (fun i hi e=>by
   rcases e with e|e
   ·exact .inl e
   ·simp[Value.ownBlock] at e
    subst e
    rcases hor with e2|e2
    ·exact .inr e2
    ·omega))
 refine⟨?_,?_,⟨.slice (some ⟨G,0,none⟩) (k+1) cap,ps++[b],hL3,?_,by simp[h3],fun i x g hx hg=>?_⟩,hl1,hl2⟩
 ·exact (Z1 (Z1 h.low hg1 h.low.size (fun r e=>by cases e)) hg2 (by have:=h.low.size;omega) (fun r e=>by have:=(hown r e).1;omega)).setCell (by show w.heap.size<=L;omega) _
 ·exact (Below.heap_setCell w2 _ _ R (by show R≠L;omega)).trans ((hg2.block R (by have:=Ze h.res;omega) (fun e=>hRo e.symm)).trans ((hg1.block R (Ze h.res) (by simp)).trans h.res))
 ·rw[List.map_append];refine ho.kept (Zn (Lb w2 (some L)) rfl _) (.inr fun e=>?_);simp[Value.ownBlock] at e;have:=(ho.lt G rfl).1;omega
 ·by_cases hi:i<ps.length
  ·rw[List.getElem?_append_left hi] at hx;exact hnew (fun w'' hw''=>h4 i x g hx hg w'' ((Agr.grown hg1 (fun r e=>by cases e)).trans hw'' (fun _ _ e=>e)))
  ·rw[List.getElem?_append_right (by omega)] at hx;have hi0:i=ps.length:=by
    rcases Nat.lt_or_ge (i-ps.length) 1 with h9|h9
    ·omega
    ·rw[List.getElem?_eq_none (by simpa using h9)] at hx;cases hx
   subst hi0;simp at hx;subst hx;rw[h3,hf] at hg
   cases hg
   exact hnew hb
theorem Zte {P:Program} {w:World} (t ty:TypeId) (base:Nat) (e:TypeId) (z:Value) (bytes:Nat) (ht:P.underlying t=some (.slice e)) (hinfo:(P.info? e).map (fun i=>(i.zero,i.size,i.bytes))=some (some z,1,bytes)) (hzs:z.cells.size=1)
  (v:Value) (xs:List Value) (n:Nat) (hown:w.ownsRow base e 1 v n xs)
  (b:Nat) (u:Value) (hu:u.oneCell'=true) (hc:w.cell? ⟨b,0,none⟩=some u)
  (h63:n+1<=maxLen) (hbytes:(n+1)*bytes<=140737488355328) (hbase:base<=w.heap.size):
  ∃ g c w',(Builtin.append_ #[t,t] ty #[v,.slice (some ⟨b,0,none⟩) 1 1]).run P w=.ok (.slice (some ⟨g,0,none⟩) (n+1) c) w'/\w'.ownsRow base e 1 (.slice (some ⟨g,0,none⟩) (n+1) c) (n+1) (xs++[u])/\w.grownBy w' v.ownBlock/\(v.ownBlock=some g\/g=w.heap.size):=by
 obtain⟨i,hi,hz0,hz1,hz2⟩:=info_parts hinfo;have hnews:∀ j u',[u][j]?=some u'->w.cell? ((⟨b,0,none⟩:Addr).add j)=some u':=by
  intro j u' hj
  cases j with
  |zero=>simp at hj;subst hj;simpa [Addr.add] using hc
  |succ j=>simp at hj
 obtain⟨v',w',hrun,h2,h3,h4,h5⟩:=run_append_own_at (P:=P) w base t ty e i z 1 bytes ht hi hz0 hz1 hz2 hzs (by decide) v n xs hown ⟨b,0,none⟩ 1 1 [u] (by simp) hnews
  (by intro u' hu';simp at hu';subst hu';exact hu) h63 hbytes hbase
 rcases h2.2 with ⟨_,h0⟩|⟨g,cap,cur,e1,_⟩
 ·omega
 ·subst e1;refine⟨g,cap,w',hrun,h2,h3,?_⟩
  rcases h5 with h5|h5
  ·exact .inl h5.symm
  ·right;simpa [Value.ownBlock] using h5
theorem Zpo {P:Program} {w:World} {ops:Array Oper} {o:Oper} {a:Act} {K:Act->World->Prop} {Q:Exit->Act->World->Prop} {E:Prop} (hgd:o.guard=none) (s x:Operand) (t:TypeId)
  (ho:o.op=.call { callee:=.builtin .append,args:= #[s,x],argTypes:= #[t,t] })
  (base:Nat) (e:TypeId) (z:Value) (bytes:Nat) (ht:P.underlying t=some (.slice e)) (hinfo:(P.info? e).map (fun i=>(i.zero,i.size,i.bytes))=some (some z,1,bytes)) (hzs:z.cells.size=1)
  (v:Value) (xs:List Value) (n:Nat) (hs:a.eval s=v) (hown:w.ownsRow base e 1 v n xs)
  (b:Nat) (u:Value) (hu:u.oneCell'=true) (hx:a.eval x=.slice (some ⟨b,0,none⟩) 1 1) (hc:w.cell? ⟨b,0,none⟩=some u)
  (h63:n+1<=maxLen) (hbytes:(n+1)*bytes<=140737488355328) (hbase:base<=w.heap.size)
  (h:∀ g c w',w'.ownsRow base e 1 (.slice (some ⟨g,0,none⟩) (n+1) c) (n+1) (xs++[u])->w.grownBy w' v.ownBlock->(v.ownBlock=some g\/g=w.heap.size)->K (a.put o.dst (.slice (some ⟨g,0,none⟩) (n+1) c)) w'):
  if Region.wanted o (yielded ops a.tmps)=true then Oper.wp P o a w K Q else E:=by
 have hw:Region.wanted o (yielded ops a.tmps)=true:=by simp[Region.wanted,hgd]
 rw[if_pos hw];obtain⟨g,c,w',hrun,h1,h2,h3⟩:=Zte (P:=P) t o.type base e z bytes ht hinfo hzs v xs n hown b u hu hc h63 hbytes hbase;have h6:=h g c w' h1 h2 h3;unfold Oper.wp execOp;simp only[ho,resolve,invoke,builtin,Sem.run_bind,Sem.run_pure,Result.andThen_ok,List.map_toArray,List.map_cons,List.map_nil,hs,hx,hrun];exact h6
theorem Zcg {w:World} {g:Nat} {a b c d:Value} {t:TypeId} (h:w.heap[g]?=some (.cells #[a,b,c,d] t (0,0))) (x y z u:Value):
  ((((w.setCell ⟨g,0,none⟩ x).setCell ⟨g,1,none⟩ y).setCell ⟨g,2,none⟩ z).setCell ⟨g,3,none⟩ u).heap[g]?=some (.cells #[x,y,z,u] t (0,0)):=
 Zs (Zs (Zs (Zs h 0 x) 1 y) 2 z) 3 u
end
theorem Zch {p:GProg} (h0:(Yc p).1=0):((∀ r∈Yv,Jn p r=none)/\((Y5 p=(21,(0,0,0))/\(65536<Kc p\/65536<Jj p))\/(Y5 p=(0,(0,0,0))/\¬ (65536<Kc p\/65536<Jj p))))\/∃ r pt,r∈Yv/\Jn p r=some pt/\Y5 p=(r,pt):=by
 unfold Y5;rw[if_neg (by simp[h0])]
 cases h:Zq [17,18,19,20] fun _ r=>(Jn p r).map fun pt=>(r,pt) with
 |none=>
  left;refine⟨fun r hr=>?_,?_⟩
  ·obtain⟨j,hj,e⟩:=List.mem_iff_getElem.1 hr;have:=Zl h (show [17,18,19,20][j]?=some r by rw[<-e];exact Ld hj);simpa using this
  ·by_cases hc:65536<Kc p\/65536<Jj p
   ·exact .inl ⟨by simp[hc],hc⟩
   ·exact .inr ⟨by simp only[if_neg hc],hc⟩
 |some q=>
  right;obtain⟨j,r,h1,h2,_⟩:=Zer h;simp only[Option.map_eq_some_iff] at h2;obtain⟨pt,h3,rfl⟩:=h2;exact⟨r,pt,Ll h1,h3,rfl⟩
def SOk (p:GProg):Prop:=∀ r∈Yv,Jn p r=none
theorem Qm {p:GProg} (h:(Yc p).1≠0):Y5 p=Yc p:=by
 unfold Y5;rw[if_pos h]
theorem SOk.rule {p:GProg} (h:SOk p) {r:Nat} (hr:r∈Yv) {i:Nat} {f:GFun} (hf:p[i]?=some f):U3 f r=none:=by
 have:=Zl (h r hr) hf;simpa using this
theorem Uy {f:GFun} {q:Nat->Nat->GIns->Bool} (h:V7 f q=none) {b k:Nat} {y:GBlk} {x:GIns} (hy:f.bk9[b]?=some y) (hx:y.code[k]?=some x):q b k x=false:=by
 have h1:=Zl (Zl h hy) hx;simpa using h1
theorem SOk.reach {p:GProg} (h:SOk p) {i:Nat} {f:GFun} (hf:p[i]?=some f) {k:Nat} (hk:k<f.bk9.length):Path (Zv f.bk9) 0 k:=by
 have h1:Xw f=none:=h.rule (r:=18) (by decide) hf;unfold Xw at h1;rw[Option.map_eq_none_iff,List.find?_eq_none] at h1;have:=h1 k (by simpa using hk);unfold J1 at this;simpa using this
theorem Zvd {bs:List GBlk} {k c:Nat} (h:c∈row (Zv bs) k):∃ y,bs[k]?=some y/\(Y7 y).op≠14/\∃ s∈(Y7 y).lb9,(Yd bs s).getD 0=c:=by
 unfold row Zv at h;rw[List.getElem?_map] at h
 cases hy:bs[k]? with
 |none=>rw[hy] at h;simp at h
 |some y=>
  rw[hy] at h;simp only[Option.map_some,Option.getD_some] at h;have h2:=mem_formN.1 h;unfold J0 at h2
  split at h2
  ·cases h2
  ·rename_i hne
   obtain⟨s,hs,e⟩:=List.mem_map.1 h2;exact⟨y,rfl,hne,s,hs,e⟩
theorem SOk.back {p:GProg} (hn:NOk p) (h:SOk p) {i:Nat} {f:GFun} (hf:p[i]?=some f) {k c:Nat} (hc:c∈row (Zv f.bk9) k):c≠0:=by
 obtain⟨y,hy,hne,s,hs,e⟩:=Zvd hc;intro hc0;obtain⟨hcd,_⟩:=hn.ends hf hy;have hx:=V2 hcd;obtain⟨j,hj⟩:=hn.lb9 hf hy hx s hs;rw[hj] at e;simp only[Option.getD_some] at e;have hlab:=Zax hj;rw[e,hc0] at hlab;have h1:V7 f (Uq f)=none:=h.rule (r:=17) (by decide) hf;have h2:=Uy h1 hy hx;have h6:((Y7 y).op == 6)=false:=by
  have:=(hn.fok hf).of.op y (Ll hy);rw[beq_eq_false_iff_ne];omega
 unfold Uq Ziq at h2;rw[h6,hlab] at h2;simp[hs] at h2
structure DI (g:Gph) (out:List Bool) (nx:List Nat):Prop where
 len:out.length=g.length
 lt:∀ x∈nx,x<g.length
 cl:∀ k,out[k]?=some true->∀ c∈row g k,out[c]?=some true\/c∈nx
 st:out[0]?=some true\/0∈nx
theorem DI.start {g:Gph} (h:0<g.length):DI g (List.replicate g.length false) [0] where
 len:=by simp
 lt:=fun x hx=>by simp at hx;subst hx;exact h
 cl:=fun k hk=>by rw[List.getElem?_replicate] at hk;split at hk<;>simp at hk
 st:=.inr (by simp)
theorem DI.skip {g:Gph} {out:List Bool} {nx:List Nat} {i:Nat} (h:DI g out (nx++[i])) (hi:out[i]?=some true):DI g out nx where
 len:=h.len
 lt:=fun x hx=>h.lt x (List.mem_append_left _ hx)
 cl:=fun k hk c hc=>by
  rcases h.cl k hk c hc with h1|h1
  ·exact .inl h1
  ·rcases List.mem_append.1 h1 with h1|h1
   ·exact .inr h1
   ·rw[List.mem_singleton] at h1;subst h1;exact .inl hi
 st:=by
  rcases h.st with h1|h1
  ·exact .inl h1
  ·rcases List.mem_append.1 h1 with h1|h1
   ·exact .inr h1
   ·rw[List.mem_singleton] at h1;rw[h1];exact .inl hi
theorem DI.take {g:Gph} (hok:GOk g) {out:List Bool} {nx:List Nat} {i:Nat} (h:DI g out (nx++[i])):DI g (out.set i true) (nx++row g i):=by
 have hil:i<out.length:=by rw[h.len];exact h.lt i (by simp)
 have up:∀ c,out[c]?=some true\/c∈nx++[i]->(out.set i true)[c]?=some true\/c∈nx++row g i:=by
  intro c hc
  by_cases e:i=c
  ·subst e;exact .inl (by simp[hil])
  ·rcases hc with hc|hc
   ·exact .inl (by rw[List.getElem?_set_ne e];exact hc)
   ·rcases List.mem_append.1 hc with hc|hc
    ·exact .inr (List.mem_append_left _ hc)
    ·rw[List.mem_singleton] at hc;exact absurd hc.symm e
 refine⟨by simp[h.len],fun x hx=>?_,fun k hk c hc=>?_,up 0 h.st⟩
 ·rcases List.mem_append.1 hx with hx|hx
  ·exact h.lt x (List.mem_append_left _ hx)
  ·unfold row at hx
   cases hr:g[i]? with
   |none=>rw[hr] at hx;simp at hx
   |some r=>
    rw[hr] at hx;exact hok.lt r (Ll hr) x hx
 ·by_cases e:i=k
  ·subst e;exact .inr (List.mem_append_right _ hc)
  ·rw[List.getElem?_set_ne e] at hk;exact up c (h.cl k hk c hc)
theorem DI.done {g:Gph} {out:List Bool} (h:DI g out []) {k:Nat} (hp:Path g 0 k):out[k]?=some true:=by
 induction hp with
 |refl=>exact h.st.resolve_right (by simp)
 |step _ hc ih=>exact (h.cl _ ih _ hc).resolve_right (by simp)

/- Package ids. Conditions in it. -/
import Derived.Test.YtlcogjllnbfneaaGreatEChn
import Derived.Test.YtlcogjllnbfneaaGreatENa
import Derived.Deep.DeepCutAuto
import Derived.Deep.DeepMust
import Derived.OwnWalk
set_option maxHeartbeats 4000000
set_option maxRecDepth 100000
set_option linter.all false
namespace Go.Proofs.YtlcogjllnbfneaaGreat
open Lib(hid)
section
open Go.RowKit Go.Shelf
theorem infoL:(Tryz.prog.info? 106).map (fun i=>(i.zero,i.size,i.bytes))=some (some (.agg #[.int .i64 0,.string ⟨#[]⟩]),2,24):=by kernel_rfl
def Yee (x:Nat×Str):List Value:=[.int .i64 x.1,.string ⟨x.2.toArray⟩]
structure TabL (w:World) (base t M:Nat) (v:Value) (l:List (Nat×Str)):Prop where
 blk:w.heap[t]?=some (.cells #[.map (some M),v] 163 (0,0))
 map:w.heap[M]?=some (Z7 Zcr Z4 l.zipIdx)
 own:w.ownsRow base 106 2 v l.length (l.flatMap Yee)
 tb:t<base
 mb:M<base
 ne:t≠M
theorem TabL.chg {w w':World} {base t M:Nat} {v:Value} {l:List (Nat×Str)} {Q:Nat->Prop} (h:TabL w base t M v l) (hg:Chg Q w w') (h1:¬ Q t) (h2:¬ Q M) (h3:∀ g,v.ownBlock=some g->¬ Q g):TabL w' base t M v l:=
 ⟨hg.at_ h.blk h1,hg.at_ h.map h2,hg.owns h.own h3,h.tb,h.mb,h.ne⟩
def Zga {κ:Type} [BEq κ] (l:List κ) (k:κ):Bool:=l.contains k
def ixK {κ:Type} [BEq κ] (l:List κ) (k:κ):Nat:=if l.contains k then l.idxOf k else 0
def Qb (t M:Nat) (v:Value):Nat->Prop:=fun n=>n=t\/n=M\/v.ownBlock=some n
theorem Zqd (l:List (Nat×Str)) (base t M:Nat) (v:Value) (k:Nat×Str) (w:World) (h:TabL w base t M v l) (hb:base<=w.heap.size) (hlen:l.length<=1099511627776):
  Calls Tryz.prog 64 #[.pointer (some ⟨t,0,none⟩),.agg #[.int .i64 k.1,.string ⟨k.2.toArray⟩]] w fun e w'=>e=.returned (.int .i64 (l.idxOf k:Nat))/\
   ∃ v',TabL w' base t M v' (Ub l k)/\Chg (Qb t M v) w w'/\(∀ g,v'.ownBlock=some g->v.ownBlock=some g\/w.heap.size<=g):=by
 obtain⟨A,c,rfl,-,-,-,-⟩:=Zz h.own;obtain⟨W,hW⟩:∃ W:World,W=w.alloc (.cells #[.int .i64 k.1,.string ⟨k.2.toArray⟩] 106):=⟨_,rfl⟩
 have hgW:Chg (fun _=>False) w W:=by rw[hW];exact .alloc _ _ _
 have hT:=h.chg hgW (fun e=>e) (fun e=>e) (fun _ _ e=>e);have hbx:W.heap[w.heap.size]?=some (.cells #[.int .i64 k.1,.string ⟨k.2.toArray⟩] 106 (0,0)):=by rw[hW];exact La _ _
 have hrun:=fun nq=>U2 (P:=Tryz.prog) (w:=W.drewN nq) keyL Tryz.underlying161 hT.map k (z:=.int .i64 0) (by kernel_rfl)
 simp only[Zcr] at hrun;have k0:W.cell? ⟨w.heap.size,0,none⟩=some (.int .i64 k.1):=(Za hbx).1 0;have k1:W.cell? ⟨w.heap.size,1,none⟩=some (.string ⟨k.2.toArray⟩):=(Za hbx).1 1;have t0:W.cell? ⟨t,0,none⟩=some (.map (some M)):=(Za hT.blk).1 0;have hget:=Ks l 0 k
 by_cases hk:l.contains k=true
 ·rw[if_pos hk,Nat.zero_add] at hget;rw[hget] at hrun;simp only[Option.isSome_some,Z4] at hrun;have HT:=hid hT;have HgW:=hid hgW;clear hget hT hgW hbx h;go_enter Tryz.func64,Tryz.ntmps64;go_upto_region 3 with (fail)
  rw[<-hW];clear hW;go_quiet (fail);go_wp2;go_ret;refine⟨rfl,.slice A l.length c,?_,HgW.out.trans (Chg.grown (Q:=fun _=>False) (Zg (Lb W none) nq) (fun r e=>by cases e)) (fun _ _ e=>e) |>.mono (fun _ _ e=>e.elim),fun g e=>.inl e⟩;unfold Ub;rw[if_pos hk];exact⟨HT.out.blk,HT.out.map,HT.out.own,HT.out.tb,HT.out.mb,HT.out.ne⟩
 ·rw[if_neg hk] at hget;rw[hget] at hrun;simp only[Option.isSome_none] at hrun;have HT:=hid hT;have HgW:=hid hgW;have Hbx:=hid hbx;clear hget hT hgW hbx h;go_enter Tryz.func64,Tryz.ntmps64;go_upto_region 3 with (fail)
  rw[<-hW];clear hW;go_quiet (fail);obtain⟨W1,hW1⟩:∃ W1:World,W1=W.drewN nq:=⟨_,rfl⟩
  have HT1:=hid (show TabL W1 base t M (.slice A l.length c) l by rw[hW1];exact⟨HT.out.blk,HT.out.map,HT.out.own,HT.out.tb,HT.out.mb,HT.out.ne⟩);have Hg1:=hid (show Chg (fun _=>False) w W1 by rw[hW1];exact HgW.out.trans (Chg.grown (Zg (Lb W none) nq) (fun r e=>by cases e)) (fun _ _ e=>e));have Hbx1:=hid (show W1.heap[w.heap.size]?=some (.cells #[.int .i64 k.1,.string ⟨k.2.toArray⟩] 106 (0,0)) by rw[hW1];exact Hbx.out);rw[<-hW1];clear hW1 HT HgW Hbx hrun k0 k1 t0;have t1:W1.cell? ⟨t,1,none⟩=some (.slice A l.length c):=(Za HT1.out.blk).1 1;have t0:W1.cell? ⟨t,0,none⟩=some (.map (some M)):=(Za HT1.out.blk).1 0;have k0:W1.cell? ⟨w.heap.size,0,none⟩=some (.int .i64 k.1):=(Za Hbx1.out).1 0;have k1:W1.cell? ⟨w.heap.size,1,none⟩=some (.string ⟨k.2.toArray⟩):=(Za Hbx1.out).1 1;go_upto_region 6 with (fail)
  have hrun:=Zed (P:=Tryz.prog) (w:=W1.drew) (ev:=Z4) keyL Tryz.underlying161 HT1.out.map k l.length;rw[Zkv (fun e=>hk (by simpa using e))] at hrun;simp only[Zcr,Z4] at hrun;go_cut [5] (fun s5 wx=>s5=.int .i64 l.length/\Hid (wx.heap[M]?=some (Z7 Zcr Z4 (l++[k]).zipIdx))/\Hid (Chg (fun n=>n=M) W1 wx))
  case first=>
   go_region_law (fail)
   all_goals (go_wp2_with fail;go_meet)
   all_goals exact⟨rfl,hid (Xt HT1.out.map _),hid ((Chg.grown (Q:=fun n=>n=M) (Zg (Lb W1 none) 1) (fun r e=>by cases e)).trans (Chg.turned (Q:=fun n=>n=M) (Turned.putObj _ M _) rfl) (fun _ _ e=>e))⟩
  case rest=>
   obtain⟨rfl,hM2,hg2⟩:=hcut;clear hrun k0 k1 t0 t1;have hMl:=Ze HT1.out.map;have htM:=HT1.out.ne;have htb:=HT1.out.tb;have hmb:=HT1.out.mb;have hblk:=hg2.out.at_ HT1.out.blk htM;have hbx2:=hg2.out.at_ Hbx1.out (by omega);have hown:=hg2.out.owns HT1.out.own (fun g e=>by have:=(HT1.out.own.lt g e).1;omega);have t1:wc.cell? ⟨t,1,none⟩=some (.slice A l.length c):=(Za hblk).1 1;have k0:wc.cell? ⟨w.heap.size,0,none⟩=some (.int .i64 k.1):=(Za hbx2).1 0;have k1:wc.cell? ⟨w.heap.size,1,none⟩=some (.string ⟨k.2.toArray⟩):=(Za hbx2).1 1;have htl:=Ze hblk;have hne1:some t≠(Value.slice A l.length c).ownBlock:=fun e=>by have:=(hown.lt t e.symm).1;omega
   have hne2:some M≠(Value.slice A l.length c).ownBlock:=fun e=>by have:=(hown.lt M e.symm).1;omega
   have hwl:base<=wc.heap.size:=by have:=hg2.out.size;have:=Hg1.out.size;omega
   have Hblk:=hid hblk;have Hown:=hid hown;clear hblk hbx2 hown;go_upto_region 7 with (fail)
   go_cut [5] (fun s5 wx=>s5=.int .i64 l.length/\∃ v',Hid (TabL wx base t M v' (l++[k]))/\Hid (Chg (fun n=>n=t\/(Value.slice A l.length c).ownBlock=some n) wc wx)/\(∀ g,v'.ownBlock=some g->(Value.slice A l.length c).ownBlock=some g\/wc.heap.size<=g))
   case first=>
    go_region_law (refine Uw rfl (.tmp 35) (.tmp 37) 160 rfl base 106 _ 2 24 Tryz.underlying160 infoL rfl (by decide) (.slice A l.length c) _ _ rfl (Hown.out.alloc _) wc.heap.size (Yee k) rfl (by simp[Yee,Value.oneCell']) rfl _ _ (La wc.drew _) rfl (by unfold maxLen;omega) (by omega) (by simp;omega) ?_;intro G cap w3 ho hg hor;
                                                                                      have hb3:=(hg.block t (by simp;omega) hne1).trans ((Below.heap_alloc wc.drew _ t htl).trans Hblk.out);
                                                                                      have x1:w3.cell? ⟨t,1,none⟩=some (.slice A l.length c):=(Za hb3).1 1;have x2:w3.frozen? ⟨t,1,none⟩=false:=(Za hb3).2 1;
                                                                                      have Hb3:=hid hb3;have Ho:=hid ho;have Hg:=hid hg;have Hor:=hid hor;clear hb3 ho hg hor)
    all_goals (go_wp2_with fail;go_meet)
    all_goals
     have hgs:w3.grownBy (w3.setCell ⟨t,1,none⟩ (.slice (some ⟨G,0,none⟩) (l.length+1) cap)) (some t):=Zn (Lb _ _) rfl _;have hc:Chg (fun n=>n=t\/(Value.slice A l.length c).ownBlock=some n) wc (w3.setCell ⟨t,1,none⟩ (.slice (some ⟨G,0,none⟩) (l.length+1) cap)):=
      ((Chg.grown (Q:=fun n=>n=t\/(Value.slice A l.length c).ownBlock=some n) (Zg (Lb wc none) 1) (fun r e=>by cases e)).trans (Chg.alloc (fun _=>False) _ _) (fun _ _ e=>e.elim)).trans ((Chg.grown (Q:=fun n=>n=t\/(Value.slice A l.length c).ownBlock=some n) Hg.out (fun r e=>.inr e)).trans (Chg.grown (Q:=fun n=>n=t) hgs (fun r e=>by injection e with e;exact e.symm)) (fun _ _ e=>.inl e)) (fun _ _ e=>e)
     have hG:base<=G:=(Xm Ho.out).1;refine⟨rfl,_,hid ⟨Zs Hb3.out 1 _,hc.at_ hM2.out (by intro e;exact e.elim (fun e=>htM e.symm) (fun e=>hne2 e.symm)),by simpa [List.flatMap_append] using Ho.out.kept hgs (.inr (by intro e;injection e with e;simp only at e;omega)),htb,hmb,htM⟩,hid hc,fun g e=>?_⟩;injection e with e
     simp only at e;subst e
     rcases Hor.out with e|e
     ·exact .inl e
     ·right;rw[e];simp
   case rest=>
    obtain⟨rfl,v',hT3,hg3,hor3⟩:=hcut;go_wp2;go_ret;have hk2:Ub l k=l++[k]:=by unfold Ub;rw[if_neg hk]
    have hix:l.idxOf k=l.length:=List.idxOf_eq_length (by simpa using hk);refine⟨by rw[hix];rfl,v',by rw[hk2];exact hT3.out,?_,fun g e=>?_⟩
    ·exact ((Hg1.out.mono (Q':=Qb t M (.slice A l.length c)) (fun _ _ e=>e.elim)).trans hg2.out (fun _ _ e=>.inr (.inl e))).trans hg3.out (fun _ _ e=>by
      rcases e with e|e
      ·exact .inl e
      ·exact .inr (.inr e))
    ·rcases hor3 g e with h|h
     ·exact .inl h
     ·right;have:=hg2.out.size;have:=Hg1.out.size;omega
theorem Zrs (l:List (Nat×Str)) (base t M:Nat) (v:Value) (k:Nat×Str) (w:World) (h:TabL w base t M v l) (hb:base<=w.heap.size):
  Calls Tryz.prog 71 #[.pointer (some ⟨t,0,none⟩),.agg #[.int .i64 k.1,.string ⟨k.2.toArray⟩]] w fun e w'=>e=.returned (.tuple #[.int .i64 (ixK l k),.bool (Zga l k)])/\w.grownBy w' none:=by
 obtain⟨W,hW⟩:∃ W:World,W=w.alloc (.cells #[.int .i64 k.1,.string ⟨k.2.toArray⟩] 106):=⟨_,rfl⟩
 have hgW:w.grownBy W none:=by rw[hW];exact Lc _ _ _
 have hT:=h.chg (Chg.grown (Q:=fun _=>False) hgW (fun r e=>by cases e)) (fun e=>e) (fun e=>e) (fun _ _ e=>e);have hbx:W.heap[w.heap.size]?=some (.cells #[.int .i64 k.1,.string ⟨k.2.toArray⟩] 106 (0,0)):=by rw[hW];exact La _ _
 have hrun:=fun nq=>U2 (P:=Tryz.prog) (w:=W.drewN nq) keyL Tryz.underlying161 hT.map k (z:=.int .i64 0) (by kernel_rfl)
 simp only[Zcr] at hrun;have k0:W.cell? ⟨w.heap.size,0,none⟩=some (.int .i64 k.1):=(Za hbx).1 0;have k1:W.cell? ⟨w.heap.size,1,none⟩=some (.string ⟨k.2.toArray⟩):=(Za hbx).1 1;have t0:W.cell? ⟨t,0,none⟩=some (.map (some M)):=(Za hT.blk).1 0;have hget:=Ks l 0 k;rw[hget,Nat.zero_add] at hrun;have HgW:=hid hgW;clear hget hT hgW hbx h;go_enter Tryz.func71,Tryz.ntmps71;go_upto_region 3 with (fail)
 rw[<-hW];clear hW
 cases hk:l.contains k with
 |true=>
  rw[hk] at hrun;simp only[if_true,Option.isSome_some,Z4] at hrun;have h1:ixK l k=l.idxOf k:=by unfold ixK;rw[if_pos hk]
  have h2:Zga l k=true:=hk;clear hk;go_quiet (fail);go_wp2;go_ret2;exact⟨by first|rfl|simp[h1,h2],Zg HgW.out nq⟩
 |false=>
  rw[hk] at hrun;simp only[Bool.false_eq_true,if_false,Option.isSome_none] at hrun;have h1:ixK l k=0:=by unfold ixK;rw[if_neg (by rw[hk];decide)]
  have h2:Zga l k=false:=hk;clear hk;go_quiet (fail);go_wp2;go_ret2;exact⟨by first|rfl|simp[h1,h2],Zg HgW.out nq⟩
theorem Yjh (l:List (Nat×Str)) (base t M:Nat) (v:Value) (w:World) (h:TabL w base t M v l):
  Calls Tryz.prog 69 #[.pointer (some ⟨t,0,none⟩)] w fun e w'=>e=.returned (.int .i64 l.length)/\w=w':=by
 obtain⟨A,c,rfl,-,-,-,-⟩:=Zz h.own;have t1:w.cell? ⟨t,1,none⟩=some (.slice A l.length c):=(Za h.blk).1 1;clear h;go_enter Tryz.func69,Tryz.ntmps69;go_wp2;go_ret;exact⟨rfl,rfl⟩
end
section
open Go.RowKit Go.Shelf
theorem Zvh (w:World):Calls Tryz.prog 61 #[.slice none 0 0] w fun e w'=>e=.returned (.pointer (some ⟨w.heap.size+1,0,none⟩))/\w.grownBy w' none/\w'.heap.size=w.heap.size+2/\∀ base,w.heap.size+1<base->TabL w' base (w.heap.size+1) w.heap.size (.slice none 0 0) []:=by
 have hmm:∀ w:World,(Instr.makeMap 161 none).run Tryz.prog w=.ok (.map (some w.heap.size)) (w.alloc (Z7 Zcr Z4 [])):= @run_makeMap Tryz.prog 161;obtain⟨W,hW⟩:∃ W:World,W=(w.alloc (Z7 Zcr Z4 [])).alloc (.cells #[.map (some w.heap.size),.slice none 0 0] 163):=⟨_,rfl⟩
 go_enter Tryz.func61,Tryz.ntmps61;go_upto_region 2 with (fail)
 rw[<-hW];have HW:=hid hW;clear hW;go_wp2_with fail;go_loopw [11] (fun s11 wr=>s11=.int .i64 0/\W=wr) (fun _ _=>0)
 case atStart=>exact⟨rfl,rfl⟩
 case round=>
  obtain⟨rfl,rfl⟩:=hrel;go_wp2;go_ret;refine⟨by first|rfl|(rw[HW.out];simp),by rw[HW.out];exact Zd (Lc _ _ _) _,by rw[HW.out];simp,fun base hb=>⟨?_,?_,World.ownsRow_nil _ _ _ _,hb,by omega,by omega⟩⟩
  ·rw[HW.out];have:=La (w.alloc (Z7 Zcr Z4 [])) (.cells #[.map (some w.heap.size),.slice none 0 0] 163);simpa using this
  ·rw[HW.out];exact Zc (La w (Z7 Zcr Z4 [])) _
end
section
open Go.RowKit Go.Shelf
def cellS (x:Str):List Value:=[.string ⟨x.toArray⟩]
structure TabS (w:World) (base t M:Nat) (v:Value) (l:List Str):Prop where
 blk:w.heap[t]?=some (.cells #[.map (some M),v] 166 (0,0))
 map:w.heap[M]?=some (Z7 encS Z4 l.zipIdx)
 own:w.ownsRow base 9 1 v l.length (l.flatMap cellS)
 tb:t<base
 mb:M<base
 ne:t≠M
theorem TabS.chg {w w':World} {base t M:Nat} {v:Value} {l:List Str} {Q:Nat->Prop} (h:TabS w base t M v l) (hg:Chg Q w w') (h1:¬ Q t) (h2:¬ Q M) (h3:∀ g,v.ownBlock=some g->¬ Q g):TabS w' base t M v l:=
 ⟨hg.at_ h.blk h1,hg.at_ h.map h2,hg.owns h.own h3,h.tb,h.mb,h.ne⟩
theorem idS_any (l:List Str) (base t M:Nat) (v:Value) (k:Str) (w:World) (h:TabS w base t M v l) (hb:base<=w.heap.size) (hlen:l.length<=1099511627776):
  Calls Tryz.prog 63 #[.pointer (some ⟨t,0,none⟩),.string ⟨k.toArray⟩] w fun e w'=>e=.returned (.int .i64 (l.idxOf k:Nat))/\
   ∃ v',TabS w' base t M v' (Ub l k)/\Chg (Qb t M v) w w'/\(∀ g,v'.ownBlock=some g->v.ownBlock=some g\/w.heap.size<=g):=by
 obtain⟨A,c,rfl,-,-,-,-⟩:=Zz h.own;have hgW:Chg (fun _=>False) w w:=.refl _ _;have hT:=h.chg hgW (fun e=>e) (fun e=>e) (fun _ _ e=>e);have hrun:=Vl (P:=Tryz.prog) (w:=w) (Zbr Tryz.underlying9) Tryz.underlying164 hT.map k (z:=.int .i64 0) (by kernel_rfl);simp only[encS] at hrun;have t0:w.cell? ⟨t,0,none⟩=some (.map (some M)):=(Za hT.blk).1 0;have hget:=Ks l 0 k
 by_cases hk:l.contains k=true
 ·rw[if_pos hk,Nat.zero_add] at hget;rw[hget] at hrun;simp only[Option.isSome_some,Z4] at hrun;have HT:=hid hT;have HgW:=hid hgW;clear hget hT hgW h;go_enter Tryz.func63,Tryz.ntmps63;go_upto_region 3 with (fail)
  go_wp2;go_ret;refine⟨rfl,.slice A l.length c,?_,.refl _ _,fun g e=>.inl e⟩;unfold Ub;rw[if_pos hk];exact⟨HT.out.blk,HT.out.map,HT.out.own,HT.out.tb,HT.out.mb,HT.out.ne⟩
 ·rw[if_neg hk] at hget;rw[hget] at hrun;simp only[Option.isSome_none] at hrun;have HT:=hid hT;have HgW:=hid hgW;clear hget hT hgW h;have hrun6:=V5 (P:=Tryz.prog) (w:=w) (ev:=Z4) (Zbr Tryz.underlying9) Tryz.underlying164 HT.out.map k l.length;rw[Zkv (fun e=>hk (by simpa using e))] at hrun6;simp only[encS,Z4] at hrun6;have t1:w.cell? ⟨t,1,none⟩=some (.slice A l.length c):=(Za HT.out.blk).1 1;go_enter Tryz.func63,Tryz.ntmps63;go_upto_region 7 with (fail)
  obtain⟨wc,hwc⟩:∃ wc:World,wc=w.putObj M (Z7 encS Z4 (l++[k]).zipIdx):=⟨_,rfl⟩
  have hM2:wc.heap[M]?=some (Z7 encS Z4 (l++[k]).zipIdx):=by rw[hwc];exact Xt HT.out.map _
  have hg2:Chg (fun n=>n=M) w wc:=by rw[hwc];exact Chg.turned (Q:=fun n=>n=M) (Turned.putObj _ M _) rfl
  rw[show w.putObj M (Z7 encS Z4 (l++[k]).zipIdx)=wc from hwc.symm];clear hwc hrun hrun6 t0 t1;have htM:=HT.out.ne;have htb:=HT.out.tb;have hmb:=HT.out.mb;have hblk:=hg2.at_ HT.out.blk htM;have hown:=hg2.owns HT.out.own (fun g e=>by have:=(HT.out.own.lt g e).1;omega);have t1:wc.cell? ⟨t,1,none⟩=some (.slice A l.length c):=(Za hblk).1 1;have htl:=Ze hblk;have hne1:some t≠(Value.slice A l.length c).ownBlock:=fun e=>by have:=(hown.lt t e.symm).1;omega
  have hne2:some M≠(Value.slice A l.length c).ownBlock:=fun e=>by have:=(hown.lt M e.symm).1;omega
  have hwl:base<=wc.heap.size:=by have:=hg2.size;omega
  have Hblk:=hid hblk;have Hown:=hid hown;have HM2:=hid hM2;have Hg2:=hid hg2;clear hblk hown hM2 hg2
  go_wp2_with ((at_builtin;go_must (refine Zck rfl (.tmp 35) (.tmp 37) 23 rfl base 9 _ 1 16 Tryz.underlying23 Zkm rfl (by decide) (.slice A l.length c) _ _ rfl (Hown.out.alloc _) wc.heap.size (cellS k) rfl (by simp[cellS,Value.oneCell']) rfl _ _ (La wc _) rfl (by unfold maxLen;omega) (by omega) (by simp;omega) ?_;intro G cap w3 ho hg hor;
                                                                                       have hb3:=(hg.block t (by simp;omega) hne1).trans ((Below.heap_alloc wc _ t htl).trans Hblk.out);
                                                                                       have x1:w3.cell? ⟨t,1,none⟩=some (.slice A l.length c):=(Za hb3).1 1;have x2:w3.frozen? ⟨t,1,none⟩=false:=(Za hb3).2 1;
                                                                                       have Hb3:=hid hb3;have Ho:=hid ho;have Hg:=hid hg;have Hor:=hid hor;clear hb3 ho hg hor)))
  have hgs:w3.grownBy (w3.setCell ⟨t,1,none⟩ (.slice (some ⟨G,0,none⟩) (l.length+1) cap)) (some t):=Zn (Lb _ _) rfl _;have hc:Chg (fun n=>n=t\/(Value.slice A l.length c).ownBlock=some n) wc (w3.setCell ⟨t,1,none⟩ (.slice (some ⟨G,0,none⟩) (l.length+1) cap)):=
   (Chg.alloc (fun n=>n=t\/(Value.slice A l.length c).ownBlock=some n) wc _).trans ((Chg.grown (Q:=fun n=>n=t\/(Value.slice A l.length c).ownBlock=some n) Hg.out (fun r e=>.inr e)).trans (Chg.grown (Q:=fun n=>n=t) hgs (fun r e=>by injection e with e;exact e.symm)) (fun _ _ e=>.inl e)) (fun _ _ e=>e)
  have hG:base<=G:=(Xm Ho.out).1;have hk2:Ub l k=l++[k]:=by unfold Ub;rw[if_neg hk]
  have hix:l.idxOf k=l.length:=List.idxOf_eq_length (by simpa using hk);go_ret;refine⟨by rw[hix];rfl,_,by rw[hk2];exact⟨Zs Hb3.out 1 _,hc.at_ HM2.out (by intro e;exact e.elim (fun e=>htM e.symm) (fun e=>hne2 e.symm)),by simpa [List.flatMap_append] using Ho.out.kept hgs (.inr (by intro e;injection e with e;simp only at e;omega)),htb,hmb,htM⟩,?_,fun g e=>?_⟩
  ·exact (Hg2.out.mono (Q':=Qb t M (.slice A l.length c)) (fun _ _ e=>.inr (.inl e))).trans hc (fun _ _ e=>by
    rcases e with e|e
    ·exact .inl e
    ·exact .inr (.inr e))
  ·injection e with e
   simp only at e;subst e
   rcases Hor.out with e|e
   ·exact .inl e
   ·right;rw[e];have:=Hg2.out.size;simp;omega
theorem Zvi (w:World):Calls Tryz.prog 62 #[.slice none 0 0] w fun e w'=>e=.returned (.pointer (some ⟨w.heap.size+1,0,none⟩))/\w.grownBy w' none/\w'.heap.size=w.heap.size+2/\∀ base,w.heap.size+1<base->TabS w' base (w.heap.size+1) w.heap.size (.slice none 0 0) []:=by
 have hmm:∀ w:World,(Instr.makeMap 164 none).run Tryz.prog w=.ok (.map (some w.heap.size)) (w.alloc (Z7 encS Z4 [])):= @run_makeMap Tryz.prog 164;obtain⟨W,hW⟩:∃ W:World,W=(w.alloc (Z7 encS Z4 [])).alloc (.cells #[.map (some w.heap.size),.slice none 0 0] 166):=⟨_,rfl⟩
 go_enter Tryz.func62,Tryz.ntmps62;go_upto_region 2 with (fail)
 rw[<-hW];have HW:=hid hW;clear hW;go_wp2_with fail;go_loopw [11] (fun s11 wr=>s11=.int .i64 0/\W=wr) (fun _ _=>0)
 case atStart=>exact⟨rfl,rfl⟩
 case round=>
  obtain⟨rfl,rfl⟩:=hrel;go_wp2;go_ret;refine⟨by first|rfl|(rw[HW.out];simp),by rw[HW.out];exact Zd (Lc _ _ _) _,by rw[HW.out];simp,fun base hb=>⟨?_,?_,World.ownsRow_nil _ _ _ _,hb,by omega,by omega⟩⟩
  ·rw[HW.out];have:=La (w.alloc (Z7 encS Z4 [])) (.cells #[.map (some w.heap.size),.slice none 0 0] 166);simpa using this
  ·rw[HW.out];exact Zc (La w (Z7 encS Z4 [])) _
end

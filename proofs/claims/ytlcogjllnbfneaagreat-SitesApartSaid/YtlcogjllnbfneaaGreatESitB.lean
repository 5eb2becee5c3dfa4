/- A round of the range over sites. Conditions in it. -/
import Derived.Test.YtlcogjllnbfneaaGreatEMet
import Derived.Sort.CutIn
set_option maxHeartbeats 8000000
set_option maxRecDepth 100000
set_option linter.all false
namespace Go.Proofs.YtlcogjllnbfneaaGreat
open Lib(hid)
open Go.RowKit Go.Shelf
attribute [local go_sem] Oper.semAt_some
theorem infoPt:(Tryz.prog.info? 41).map (fun i=>(i.zero,i.size,i.bytes))=some (some (.agg #[.int .i64 0,.int .i64 0,.int .i64 0]),3,24):=by kernel_rfl
theorem Yin:(Tryz.prog.info? 3).map (fun i=>(i.zero,i.size,i.bytes))=some (some (.int .i64 0),1,8):=by kernel_rfl
def Zcd:Code->Option Code
 | .seq a b=>match Zcd a with
  |some x=>some x
  |none=>Zcd b
 | .cond _ a b=>match Zcd a with
  |some x=>some x
  |none=>Zcd b
 | .block _ a=>Zcd a
 | .loop a=>Zcd a
 | .scope a=>Zcd a
 | .rangeFunc _ _ _ b=>some b
 |_=>none
def BodyQ (R:World->Prop):Exit->Act->World->Prop
 | .normal,_,w=>R w
 |_,_,_=>False
theorem Zvj {bd:Code} (hbd:(Tryz.f16).body.bind Zcd=some bd) (l rm:Nat) {base m vt vM ft fM mb mv fb b9 b10 k:Nat} {vp:Value} {ns:List Str} (W W1:World) (r1:Rw) (T:SSt) (pt:GPt) (z:GIns)
  (hW1:W1=W.setCell ⟨b9,0,none⟩ (.int .i64 k)) (c90:W.cell? ⟨b9,0,none⟩=some (.int .i64 pt.1)) (f90:W.frozen? ⟨b9,0,none⟩=false) (cfW:W.cell? ⟨fb,0,none⟩=some (.int .i64 k))
  (HN1:Hid (Made W1 r1 base ⟨m,vt,vM,ft,fM,mb⟩ vp W1 r1 T ns)) (hszW1:base<=W1.heap.size)
  (Hlen:Hid (T.vars.length<=20000/\T.pl.length<=8192/\T.sites.length<=8192/\T.of.length<=524288)) (Hz:Hid (Xe z=true->1<=z.n/\z.n<=64))
  (HR:Hid (∀ W':World,Chg (MQ ⟨m,vt,vM,ft,fM,mb⟩ r1) W1 W'->W'.cell? ⟨mv,0,none⟩=some (.pointer (some ⟨m,0,none⟩))/\W'.cell? ⟨fb,0,none⟩=some (.int .i64 k)/\(W'.cell? ⟨b9,0,none⟩=some (.int .i64 k)/\W'.cell? ⟨b9,1,none⟩=some (.int .i64 pt.2.1)/\W'.cell? ⟨b9,2,none⟩=some (.int .i64 pt.2.2))/\(W'.cell? ⟨b10,0,none⟩=some (.int .u8 z.op)/\W'.cell? ⟨b10,1,none⟩=some (.string ⟨z.dst.toArray⟩)/\W'.cell? ⟨b10,4,none⟩=some (.int .i64 z.n))))
  (R:World->Prop) (HFin:Hid (∀ W' r2,Made W1 r1 base ⟨m,vt,vM,ft,fM,mb⟩ vp W' r2 (T.ins k (pt,z)) ns->R W'))
  (s0 s1 s2 s3 s6 s7 s8 s11 s12 s13 s14 s15 s16 s17 s18 s19 s20 s21 s22 s23 s24 s25 s26 s27 s28 s29 s30 s31 s32 s33 s34 s35 s36 s37 s38 s39 s40 s41 s42 s43 s44 s45 s46 s47 s48 s49 s50 s51 s52 s53 s54 s55 s56 s57 s58 s59 s60 s61 s62 s63 s64 s65 s66 s67 s68 s69 s70 s71 s72 s73 s74 s75 s76 s77 s78 s79 s80 s81 s82 s83 s84 s85 s86 s87 s88 s89 s90 s91 s92 s93 s94 s95 s96 s97 s98 s99 s100 s101 s102 s103 s104 s105 s106 s107 s108 s109 s110 s111 s112 s113 s114 s115 s116 s117 s118 s119 s120 s121 s122 s123 s124 s125 s126 s127 s128 s129 s130 s131 s132 s133 s134 s135 s136 s137 s138 s139 s140 s141 s142 s143 s144 s145 s146 s147 s148 s149 s150 s151 s152 s153 s154 s155 s156 s157 s158 s159 s160 s161 s162 s163:Value):
  bd.wpIn (Fence.wide.inRound l) rm Tryz.prog (BodyQ R) { tmps:= #[s0,s1,s2,s3,.pointer (some ⟨mv,0,none⟩),.pointer (some ⟨fb,0,none⟩),s6,s7,s8,.pointer (some ⟨b9,0,none⟩),.pointer (some ⟨b10,0,none⟩),s11,s12,s13,s14,s15,s16,s17,s18,s19,s20,s21,s22,s23,s24,s25,s26,s27,s28,s29,s30,s31,s32,s33,s34,s35,s36,s37,s38,s39,s40,s41,s42,s43,s44,s45,s46,s47,s48,s49,s50,s51,s52,s53,s54,s55,s56,s57,s58,s59,s60,s61,s62,s63,s64,s65,s66,s67,s68,s69,s70,s71,s72,s73,s74,s75,s76,s77,s78,s79,s80,s81,s82,s83,s84,s85,s86,s87,s88,s89,s90,s91,s92,s93,s94,s95,s96,s97,s98,s99,s100,s101,s102,s103,s104,s105,s106,s107,s108,s109,s110,s111,s112,s113,s114,s115,s116,s117,s118,s119,s120,s121,s122,s123,s124,s125,s126,s127,s128,s129,s130,s131,s132,s133,s134,s135,s136,s137,s138,s139,s140,s141,s142,s143,s144,s145,s146,s147,s148,s149,s150,s151,s152,s153,s154,s155,s156,s157,s158,s159,s160,s161,s162,s163],defers:=[] } W:=by
 have hbd':=hbd;simp only[Tryz.f16,Zcd,Option.bind_some,Option.some.injEq] at hbd';subst hbd';clear hbd;gi_upto_region 18 with (fail)
 rw[<-hW1];clear hW1 c90 f90 cfW;have hS0:W1.drew.cell? ⟨mv,0,none⟩=some (.pointer (some ⟨m,0,none⟩))/\W1.drew.cell? ⟨b9,0,none⟩=some (.int .i64 k)/\W1.drew.cell? ⟨b9,1,none⟩=some (.int .i64 pt.2.1)/\W1.drew.cell? ⟨b9,2,none⟩=some (.int .i64 pt.2.2):=by
  obtain⟨e1,-,e3,-⟩:=HR.out W1.drew (Chg.grown (Zf (Lb W1 none)) (fun r e=>by cases e));exact⟨e1,e3⟩
 have cm6:W1.drew.cell? ⟨m,6,none⟩=some (r1.vP):=(Za HN1.out.mi.blk).1 6;refine Vq (fun W'=>W'.cell? ⟨mv,0,none⟩=some (.pointer (some ⟨m,0,none⟩))/\W'.cell? ⟨b9,0,none⟩=some (.int .i64 k)/\W'.cell? ⟨b9,1,none⟩=some (.int .i64 pt.2.1)/\W'.cell? ⟨b9,2,none⟩=some (.int .i64 pt.2.2)) (by kernel_rfl) (Uk (by kernel_rfl)) (by rintro⟨_,_,h⟩;exact h) hS0 (fun hHeld=>?_);refine Yb (i:=0) (v:=?v1) rfl (by kernel_rfl) (by kernel_rfl) (by kernel_rfl) (fun _ _ _ h=>h) (Or.inl ⟨by rfl,?hy1⟩) hHeld ?rest1
 case hy1=>(intro w hSw;(try dsimp only at hSw);go_simp;(try with_reducible rfl))
 try simp only[Act.put,Lg,Lh,Li]
 refine Yb (i:=1) (v:=?v2) rfl (by kernel_rfl) (by kernel_rfl) (by kernel_rfl) (fun _ _ _ h=>h) (Or.inl ⟨by rfl,?hy2⟩) hHeld ?rest2
 case hy2=>(intro w hSw;(try dsimp only at hSw);go_simp;(try with_reducible rfl))
 try simp only[Act.put,Lg,Lh,Li]
 refine Yb (i:=2) (v:=?v3) rfl (by kernel_rfl) (by kernel_rfl) (by kernel_rfl) (fun _ _ _ h=>h) (Or.inl ⟨by rfl,?hy3⟩) hHeld ?rest3
 case hy3=>(intro w hSw;(try dsimp only at hSw);go_simp;(try with_reducible rfl))
 try simp only[Act.put,Lg,Lh,Li]
 refine Yb (i:=3) (v:=?v4) rfl (by kernel_rfl) (by kernel_rfl) (by kernel_rfl) (fun _ _ _ h=>h) (Or.inl ⟨by rfl,?hy4⟩) hHeld ?rest4
 case hy4=>(intro w hSw;(try dsimp only at hSw);go_simp;(try with_reducible rfl))
 try simp only[Act.put,Lg,Lh,Li]
 refine Yb (i:=5) (v:=?v5) rfl (by kernel_rfl) (by kernel_rfl) (by kernel_rfl) (fun _ _ _ h=>h) (Or.inl ⟨by rfl,?hy5⟩) hHeld ?rest5
 case hy5=>(intro w hSw;(try dsimp only at hSw);go_simp;(try with_reducible rfl))
 try simp only[Act.put,Lg,Lh,Li]
 obtain⟨Wa,hWa⟩:∃ Wa:World,Wa=(W1.alloc (.cells #[.int .i64 k,.int .i64 pt.2.1,.int .i64 pt.2.2] 41)).drew:=⟨_,rfl⟩
 have hgA:W1.grownBy Wa none:=by rw[hWa];exact Zf (Lc W1 _ none)
 have hcA:Chg (MQ ⟨m,vt,vM,ft,fM,mb⟩ r1) W1 Wa:=Chg.grown hgA (fun r e=>by cases e);have hSa:Wa.cell? ⟨mv,0,none⟩=some (.pointer (some ⟨m,0,none⟩))/\Wa.cell? ⟨b9,0,none⟩=some (.int .i64 k)/\Wa.cell? ⟨b9,1,none⟩=some (.int .i64 pt.2.1)/\Wa.cell? ⟨b9,2,none⟩=some (.int .i64 pt.2.2):=by
  obtain⟨e1,-,e3,-⟩:=HR.out Wa hcA;exact⟨e1,e3⟩
 have cma:Wa.cell? ⟨m,6,none⟩=some (r1.vP):=(Lj (hgA.block m (Ze HN1.out.mi.blk) (by simp))).trans ((Za HN1.out.mi.blk).1 6);have hba:Wa.heap[W1.heap.size]?=some (.cells #[.int .i64 k,.int .i64 pt.2.1,.int .i64 pt.2.2] 41 (0,0)):=by rw[hWa];exact La W1 _
 have hoa:Wa.ownsRow base 41 3 r1.vP T.pl.length (T.pl.flatMap Kk):=(Chg.grown (Q:=fun _=>False) hgA (fun r e=>by cases e)).owns HN1.out.mi.pts (fun _ _ e=>e);have HWa:=hid hWa;clear hWa
 apply Zpq
 case use=>
  intro key;refine doH2 (i:=4) (j:=6) (by kernel_rfl) rfl rfl (fun K' hK=>?_) (fun K' hK=>?_)
  ·go_simp;refine hK.out _ _ hHeld (fun hHeld=>?_)
   try simp only[Act.put,Lg,Lh,Li]
   refine doH (i:=6) (by kernel_rfl) rfl (fun K' hK=>?_);go_simp;rw[<-HWa.out];refine hK.out _ _ hSa (fun _=>?_)
   try simp only[Act.put,Lg,Lh,Li]
   exact key
  ·go_simp;rw[<-HWa.out];refine hK.out _ _ hSa (fun _=>?_)
   try simp only[Act.put,Lg,Lh,Li]
   refine doH (i:=4) (by kernel_rfl) rfl (fun K' hK=>?_);go_simp;refine hK.out _ _ hSa (fun _=>?_)
   try simp only[Act.put,Lg,Lh,Li]
   exact key
 clear hS0 cm6 hHeld;refine doH (i:=7) (by kernel_rfl) rfl (fun K' hK=>?_);refine Uw rfl (.tmp 88) (.tmp 90) 56 rfl base 41 _ 3 24 Tryz.underlying56 infoPt rfl (by decide) r1.vP (T.pl.flatMap Kk) T.pl.length rfl hoa W1.heap.size (Kk (k,pt.2.1,pt.2.2)) rfl (by simp[Kk,Value.oneCell']) rfl _ _ hba rfl (by have:=Hlen.out;unfold maxLen;omega) (by have:=Hlen.out;omega) (by have:=hgA.size;omega) ?_;intro g3 c3 w3 ho3 hg3 hor3
 obtain⟨hb3,M3⟩:=HN1.out.rowP (q:=(k,pt.2.1,pt.2.2)) hgA hg3 ho3 (fun g' e=>by
  simp only[Value.ownBlock,Option.map_some,Option.some.injEq] at e
  subst e
  rcases hor3 with e|e
  ·exact .inl e
  ·exact .inr (by omega))
 have hS3:w3.cell? ⟨mv,0,none⟩=some (.pointer (some ⟨m,0,none⟩))/\w3.cell? ⟨b9,0,none⟩=some (.int .i64 k)/\w3.cell? ⟨b9,1,none⟩=some (.int .i64 pt.2.1)/\w3.cell? ⟨b9,2,none⟩=some (.int .i64 pt.2.2):=by
  obtain⟨e1,-,e3,-⟩:=HR.out w3 (hcA.trans (Chg.grown hg3 (fun r e=>by simp[MQ,Xn,e])) (fun _ _ e=>e));exact⟨e1,e3⟩
 have hS4:=HR.out _ M3.chg;obtain⟨cm3,fm3⟩:=Za hb3;have cm36:=cm3 6;have fm36:=fm3 6;clear cm3 fm3 hb3 ho3 hg3 hor3 hoa hba cma hSa hcA hgA;refine hK.out _ _ hS3 (fun hHeld=>?_)
 try simp only[Act.put,Lg,Lh,Li]
 refine Yb (i:=8) (v:=?v6) rfl (by kernel_rfl) (by kernel_rfl) (by kernel_rfl) (fun _ _ _ h=>h) (Or.inl ⟨by rfl,?hy6⟩) hHeld ?rest6
 case hy6=>(intro w hSw;(try dsimp only at hSw);go_simp;(try with_reducible rfl))
 try simp only[Act.put,Lg,Lh,Li]
 refine Yb (i:=9) (v:=?v7) rfl (by kernel_rfl) (by kernel_rfl) (by kernel_rfl) (fun _ _ _ h=>h) (Or.inl ⟨by rfl,?hy7⟩) hHeld ?rest7
 case hy7=>(intro w hSw;(try dsimp only at hSw);go_simp;(try with_reducible rfl))
 try simp only[Act.put,Lg,Lh,Li]
 refine doH (i:=10) (by kernel_rfl) rfl (fun K' hK=>?_);go_simp;refine hK.out _ _ ⟨hS4.1,hS4.2.2.1⟩ (fun _=>?_);refine wpAnyH_done (by kernel_rfl) ?_ _;obtain⟨r2,hr2⟩:∃ r2:Rw,r2={ r1 with vP:=.slice (some ⟨g3,0,none⟩) (T.pl.length+1) c3 }:=⟨_,rfl⟩
 rw[<-hr2] at M3;obtain⟨wP,hwP⟩:∃ wP,wP=w3.setCell ⟨m,6,none⟩ (.slice (some ⟨g3,0,none⟩) (T.pl.length+1) c3):=⟨_,rfl⟩
 rw[<-hwP] at M3 hS4 ⊢;obtain⟨cvP,cfP,-,-,cdP,-⟩:=hS4;clear hwP hr2 cm36 fm36 hS3;have HMP:=hid M3;clear M3;gi_upto_if 96 with (fail)
 gi_cut [96] from 97 (fun _ wx=>∃ r',Hid (Made W1 r1 base ⟨m,vt,vM,ft,fM,mb⟩ vp wx r' (T.ins1 k (pt,z)) ns))
 case first=>
  cases hd:z.dst.isEmpty with
  |true=>
   have e1:T.ins1 k (pt,z)=T.pt (k,pt.2.1,pt.2.2):=by unfold SSt.ins1;exact if_pos hd
   gi_wp2_with fail;gi_meet;exact⟨r2,hid (by rw[e1];exact HMP.out)⟩
  |false=>
   have e1:T.ins1 k (pt,z)=(T.pt (k,pt.2.1,pt.2.2)).var (k,z.dst):=by unfold SSt.ins1;exact if_neg (by simp[hd])
   have hT20:TabL wP.drew base vt vM r2.vV (T.pt (k,pt.2.1,pt.2.2)).vars:=HMP.out.mi.vars.chg (Chg.grown (Q:=fun _=>False) (Zf (Lb wP none)) (fun r e=>by cases e)) (fun e=>e) (fun e=>e) (fun _ _ e=>e);have hcall:=Zqd (T.pt (k,pt.2.1,pt.2.2)).vars base vt vM r2.vV (k,z.dst) wP.drew hT20 (by have:=HMP.out.chg.size;show base<=wP.heap.size;omega) (by have:=Hlen.out.1;show T.vars.length<=_;omega)
   have HS20:=hid (show ∀ W':World,Chg (Qb vt vM r2.vV) wP.drew W'->W'.cell? ⟨mv,0,none⟩=some (.pointer (some ⟨m,0,none⟩))/\W'.cell? ⟨m,1,none⟩=some (.pointer (some ⟨vt,0,none⟩))/\W'.cell? ⟨fb,0,none⟩=some (.int .i64 k)/\W'.cell? ⟨b10,1,none⟩=some (.string ⟨z.dst.toArray⟩) from fun W' hc=>by
    have hd:[m,vt,vM,ft,fM,mb].Nodup:=HMP.out.mi.dis
    have hm1:m<base:=HMP.out.mi.m1
    simp only[List.nodup_cons,List.mem_cons,List.not_mem_nil,or_false,not_or,List.nodup_nil,and_true,not_false_eq_true] at hd
    have hqT:¬ Qb vt vM r2.vV m:=fun e=>by
     rcases e with e|e|e
     ·exact hd.1.1 e
     ·exact hd.1.2.1 e
     ·have:=(HMP.out.mi.vars.own.lt m e).1;omega
    obtain⟨e1,e2,-,-,e5,-⟩:=HR.out W' (HMP.out.chg.trans ((Chg.grown (Q:=Qb vt vM r2.vV) (Zf (Lb wP none)) (fun r e=>by cases e)).trans hc (fun _ _ e=>e)) (fun n hn e=>Classical.byContradiction fun h=>HMP.out.old hn h (by
     rcases e with e|e|e
     ·simp[MQ,Xn,e]
     ·simp[MQ,Xn,e]
     ·simp[MQ,Xn,e])))
    exact⟨e1,(Lj (hc.block m (Ze HMP.out.mi.blk) hqT)).trans ((Za HMP.out.mi.blk).1 1),e2,e5⟩)
   have hS20:=HS20.out _ (.refl _ _);clear hT20 cvP cfP cdP;gi_upto_region 20 with (fail)
   refine Vq (fun W'=>W'.cell? ⟨mv,0,none⟩=some (.pointer (some ⟨m,0,none⟩))/\W'.cell? ⟨m,1,none⟩=some (.pointer (some ⟨vt,0,none⟩))/\W'.cell? ⟨fb,0,none⟩=some (.int .i64 k)/\W'.cell? ⟨b10,1,none⟩=some (.string ⟨z.dst.toArray⟩)) (by kernel_rfl) (Uk (by kernel_rfl)) (by rintro⟨_,_,h⟩;exact h) hS20 (fun hHeld=>?_);refine Yb (i:=0) (v:=?v8) rfl (by kernel_rfl) (by kernel_rfl) (by kernel_rfl) (fun _ _ _ h=>h) (Or.inl ⟨by rfl,?hy8⟩) hHeld ?rest8
   case hy8=>(intro w hSw;(try dsimp only at hSw);go_simp;(try with_reducible rfl))
   try simp only[Act.put,Lg,Lh,Li]
   refine Yb (i:=1) (v:=?v9) rfl (by kernel_rfl) (by kernel_rfl) (by kernel_rfl) (fun _ _ _ h=>h) (Or.inl ⟨by rfl,?hy9⟩) hHeld ?rest9
   case hy9=>(intro w hSw;(try dsimp only at hSw);go_simp;(try with_reducible rfl))
   try simp only[Act.put,Lg,Lh,Li]
   refine Yb (i:=2) (v:=?v10) rfl (by kernel_rfl) (by kernel_rfl) (by kernel_rfl) (fun _ _ _ h=>h) (Or.inl ⟨by rfl,?hy10⟩) hHeld ?rest10
   case hy10=>(intro w hSw;(try dsimp only at hSw);go_simp;(try with_reducible rfl))
   try simp only[Act.put,Lg,Lh,Li]
   refine Yb (i:=3) (v:=?v11) rfl (by kernel_rfl) (by kernel_rfl) (by kernel_rfl) (fun _ _ _ h=>h) (Or.inl ⟨by rfl,?hy11⟩) hHeld ?rest11
   case hy11=>(intro w hSw;(try dsimp only at hSw);go_simp;(try with_reducible rfl))
   try simp only[Act.put,Lg,Lh,Li]
   refine Yb (i:=4) (v:=?v12) rfl (by kernel_rfl) (by kernel_rfl) (by kernel_rfl) (fun _ _ _ h=>h) (Or.inl ⟨by rfl,?hy12⟩) hHeld ?rest12
   case hy12=>(intro w hSw;(try dsimp only at hSw);go_simp;(try with_reducible rfl))
   try simp only[Act.put,Lg,Lh,Li]
   refine Yb (i:=5) (v:=?v13) rfl (by kernel_rfl) (by kernel_rfl) (by kernel_rfl) (fun _ _ _ h=>h) (Or.inl ⟨by rfl,?hy13⟩) hHeld ?rest13
   case hy13=>(intro w hSw;(try dsimp only at hSw);go_simp;(try with_reducible rfl))
   try simp only[Act.put,Lg,Lh,Li]
   refine Yb (i:=6) (v:=?v14) rfl (by kernel_rfl) (by kernel_rfl) (by kernel_rfl) (fun _ _ _ h=>h) (Or.inl ⟨by rfl,?hy14⟩) hHeld ?rest14
   case hy14=>(intro w hSw;(try dsimp only at hSw);go_simp;(try with_reducible rfl))
   try simp only[Act.put,Lg,Lh,Li]
   refine Yb (i:=7) (v:=?v15) rfl (by kernel_rfl) (by kernel_rfl) (by kernel_rfl) (fun _ _ _ h=>h) (Or.inl ⟨by rfl,?hy15⟩) hHeld ?rest15
   case hy15=>(intro w hSw;(try dsimp only at hSw);go_simp;(try with_reducible rfl))
   try simp only[Act.put,Lg,Lh,Li]
   refine doH (i:=8) (by kernel_rfl) rfl (fun K' hK=>?_);go_simp;go_at_call 64;refine hcall.mono ?_;rintro e w11 ⟨rfl,vV',hT11,hC11,hN11⟩
   try go_wp2_with fail
   refine hK.out _ _ (HS20.out _ hC11) (fun _=>?_)
   try simp only[Act.put,Lg,Lh,Li]
   refine wpAnyH_done (by kernel_rfl) ?_ _;gi_wp2_with fail;gi_meet;refine⟨{ r2 with vV:=vV' },hid ?_⟩;rw[e1];exact HMP.out.var hT11 ((Chg.grown (Q:=Qb vt vM r2.vV) (Zf (Lb wP none)) (fun r e=>by cases e)).trans hC11 (fun _ _ e=>e)) hN11
 case rest=>
  obtain⟨r3,HM3⟩:=hcut;obtain⟨cv3,cf3,⟨c93a,c93b,c93c⟩,cop3,-,cn3⟩:=HR.out wc HM3.out.chg;clear HMP cvP cfP cdP;gi_upto_region 21 with (fail)
  gi_cut [113] from 106 (fun s113 wx=>s113=.bool (!Xe z)/\wx=wc)
  case first=>
   by_cases o1:(z.op:Int)=1
   ·have hs:Xe z=true:=by simp only[Xe,Bool.or_eq_true,beq_iff_eq];omega
    gi_wp2_with fail;gi_meet;exact⟨by simp[hs],rfl⟩
   ·by_cases o2:(z.op:Int)=2
    ·have hs:Xe z=true:=by simp only[Xe,Bool.or_eq_true,beq_iff_eq];omega
     gi_wp2_with fail;gi_meet;exact⟨by simp[hs],rfl⟩
    ·have hs:Xe z=false:=by simp only[Xe,Bool.or_eq_false_iff,beq_eq_false_iff_ne];omega
     gi_wp2_with fail;gi_meet;exact⟨by simp[hs];exact⟨o1,o2⟩,rfl⟩
  case rest=>
   obtain⟨rfl,rfl⟩:=hcut
   cases hs:Xe z with
   |false=>
    gi_wp2_with fail;exact HFin.out wc r3 (by rw[SSt.ins_eq,if_neg (by simp[hs])];exact HM3.out)
   |true=>
    obtain⟨n,hn⟩:∃ n:Nat,z.n=n:=⟨z.n.toNat,by have:=Hz.out hs;omega⟩
    have hnl:1<=n/\n<=64:=by have:=Hz.out hs;omega
    have hins:T.ins k (pt,z)=((T.ins1 k (pt,z)).site (k,pt.2.1,pt.2.2) n).fld n:=by rw[SSt.ins_eq,if_pos (show Xe (pt,z).2=true from hs)];simp[hn]
    have hl1:(T.ins1 k (pt,z)).sites.length=T.sites.length/\(T.ins1 k (pt,z)).of.length=T.of.length:=by unfold SSt.ins1;split<;>exact⟨rfl,rfl⟩
    rw[hn] at cn3;obtain⟨T1,hT1⟩:∃ T1,T1=T.ins1 k (pt,z):=⟨_,rfl⟩
    rw[<-hT1] at HM3 hins hl1;have Hins:=hid hins;have hlim:T1.sites.length<=8192/\T1.of.length<=524288:=by have:=Hlen.out;omega
    have Hlim:=hid hlim;have Hnl:=hid hnl;clear hins hT1 hl1 hlim hnl cop3;obtain⟨AS,cS,eS,-,-,-,-⟩:=Zz HM3.out.mi.sites;have cm3S:wc.cell? ⟨m,3,none⟩=some (.slice AS T1.sites.length cS):=((Za HM3.out.mi.blk).1 3).trans (congrArg some eS);have cm34:wc.cell? ⟨m,4,none⟩=some (.map (some mb)):=(Za HM3.out.mi.blk).1 4;have hs22:wc.drew.cell? ⟨mv,0,none⟩=some (.pointer (some ⟨m,0,none⟩))/\wc.drew.cell? ⟨m,3,none⟩=some (.slice AS T1.sites.length cS)/\wc.drew.cell? ⟨m,4,none⟩=some (.map (some mb))/\wc.drew.cell? ⟨b9,0,none⟩=some (.int .i64 k)/\wc.drew.cell? ⟨b9,1,none⟩=some (.int .i64 pt.2.1)/\wc.drew.cell? ⟨b9,2,none⟩=some (.int .i64 pt.2.2):=⟨cv3,cm3S,cm34,c93a,c93b,c93c⟩
    obtain⟨wM,hwM⟩:∃ wM,wM=wc.drew.putObj mb (Z7 Ve Z4 (Yz T1.at_ (k,pt.2.1,pt.2.2) T1.sites.length)):=⟨_,rfl⟩
    have hrun22:(Instr.mapUpdate 109 (.map (some mb)) (.agg #[.int .i64 k,.int .i64 pt.2.1,.int .i64 pt.2.2]) (.int .i64 T1.sites.length)).run Tryz.prog wc.drew=.ok () wM:=by
     rw[hwM];exact Zed (P:=Tryz.prog) Zon Tryz.underlying109 (w:=wc.drew) (ev:=Z4) HM3.out.mi.by_ (k,pt.2.1,pt.2.2) T1.sites.length
    have HM4:=hid (show Made W1 r1 base ⟨m,vt,vM,ft,fM,mb⟩ vp wM r3 { T1 with at_:=Yz T1.at_ (k,pt.2.1,pt.2.2) T1.sites.length } ns from by
     rw[hwM]
     exact (HM3.out.keep (Q:=fun _=>False) (Chg.grown (Zf (Lb wc none)) (fun r e=>by cases e)) (fun _ _ e=>e) (fun _ _ e=>e)).put _)
    obtain⟨cv4,cf4,⟨c94a,c94b,c94c⟩,-,-,cn4⟩:=HR.out wM HM4.out.chg;have cm43:wM.cell? ⟨m,3,none⟩=some (.slice AS T1.sites.length cS):=((Za HM4.out.mi.blk).1 3).trans (congrArg some eS);have cm44:wM.cell? ⟨m,4,none⟩=some (.map (some mb)):=(Za HM4.out.mi.blk).1 4;have hs22':wM.cell? ⟨mv,0,none⟩=some (.pointer (some ⟨m,0,none⟩))/\wM.cell? ⟨m,3,none⟩=some (.slice AS T1.sites.length cS)/\wM.cell? ⟨m,4,none⟩=some (.map (some mb))/\wM.cell? ⟨b9,0,none⟩=some (.int .i64 k)/\wM.cell? ⟨b9,1,none⟩=some (.int .i64 pt.2.1)/\wM.cell? ⟨b9,2,none⟩=some (.int .i64 pt.2.2):=⟨cv4,cm43,cm44,c94a,c94b,c94c⟩
    clear hwM HM3 cv3 cf3 c93a c93b c93c cn3 cm3S cm34 eS;have HS22:=hid hs22';clear hs22' cm43 cm44;gi_upto_region 22 with (fail)
    refine Vq (fun W'=>W'.cell? ⟨mv,0,none⟩=some (.pointer (some ⟨m,0,none⟩))/\W'.cell? ⟨m,3,none⟩=some (.slice AS T1.sites.length cS)/\W'.cell? ⟨m,4,none⟩=some (.map (some mb))/\W'.cell? ⟨b9,0,none⟩=some (.int .i64 k)/\W'.cell? ⟨b9,1,none⟩=some (.int .i64 pt.2.1)/\W'.cell? ⟨b9,2,none⟩=some (.int .i64 pt.2.2)) (by kernel_rfl) (Uk (by kernel_rfl)) (by rintro⟨_,_,h⟩;exact h) hs22 (fun hHeld=>?_);refine Yb (i:=0) (v:=?v16) rfl (by kernel_rfl) (by kernel_rfl) (by kernel_rfl) (fun _ _ _ h=>h) (Or.inl ⟨by rfl,?hy16⟩) hHeld ?rest16
    case hy16=>(intro w hSw;(try dsimp only at hSw);go_simp;(try with_reducible rfl))
    try simp only[Act.put,Lg,Lh,Li]
    refine Yb (i:=1) (v:=?v17) rfl (by kernel_rfl) (by kernel_rfl) (by kernel_rfl) (fun _ _ _ h=>h) (Or.inl ⟨by rfl,?hy17⟩) hHeld ?rest17
    case hy17=>(intro w hSw;(try dsimp only at hSw);go_simp;(try with_reducible rfl))
    try simp only[Act.put,Lg,Lh,Li]
    refine Yb (i:=2) (v:=?v18) rfl (by kernel_rfl) (by kernel_rfl) (by kernel_rfl) (fun _ _ _ h=>h) (Or.inl ⟨by rfl,?hy18⟩) hHeld ?rest18
    case hy18=>(intro w hSw;(try dsimp only at hSw);go_simp;(try with_reducible rfl))
    try simp only[Act.put,Lg,Lh,Li]
    refine Yb (i:=3) (v:=?v19) rfl (by kernel_rfl) (by kernel_rfl) (by kernel_rfl) (fun _ _ _ h=>h) (Or.inl ⟨by rfl,?hy19⟩) hHeld ?rest19
    case hy19=>(intro w hSw;(try dsimp only at hSw);go_simp;(try with_reducible rfl))
    try simp only[Act.put,Lg,Lh,Li]
    refine Yb (i:=4) (v:=?v20) rfl (by kernel_rfl) (by kernel_rfl) (by kernel_rfl) (fun _ _ _ h=>h) (Or.inl ⟨by rfl,?hy20⟩) hHeld ?rest20
    case hy20=>(intro w hSw;(try dsimp only at hSw);go_simp;(try with_reducible rfl))
    try simp only[Act.put,Lg,Lh,Li]
    refine Yb (i:=5) (v:=?v21) rfl (by kernel_rfl) (by kernel_rfl) (by kernel_rfl) (fun _ _ _ h=>h) (Or.inl ⟨by rfl,?hy21⟩) hHeld ?rest21
    case hy21=>(intro w hSw;(try dsimp only at hSw);go_simp;(try with_reducible rfl))
    try simp only[Act.put,Lg,Lh,Li]
    refine Yb (i:=6) (v:=?v22) rfl (by kernel_rfl) (by kernel_rfl) (by kernel_rfl) (fun _ _ _ h=>h) (Or.inl ⟨by rfl,?hy22⟩) hHeld ?rest22
    case hy22=>(intro w hSw;(try dsimp only at hSw);go_simp;(try with_reducible rfl))
    try simp only[Act.put,Lg,Lh,Li]
    refine Yb (i:=7) (v:=?v23) rfl (by kernel_rfl) (by kernel_rfl) (by kernel_rfl) (fun _ _ _ h=>h) (Or.inl ⟨by rfl,?hy23⟩) hHeld ?rest23
    case hy23=>(intro w hSw;(try dsimp only at hSw);go_simp;(try with_reducible rfl))
    try simp only[Act.put,Lg,Lh,Li]
    refine Yb (i:=8) (v:=?v24) rfl (by kernel_rfl) (by kernel_rfl) (by kernel_rfl) (fun _ _ _ h=>h) (Or.inl ⟨by rfl,?hy24⟩) hHeld ?rest24
    case hy24=>(intro w hSw;(try dsimp only at hSw);go_simp;(try with_reducible rfl))
    try simp only[Act.put,Lg,Lh,Li]
    refine Yb (i:=9) (v:=?v25) rfl (by kernel_rfl) (by kernel_rfl) (by kernel_rfl) (fun _ _ _ h=>h) (Or.inl ⟨by rfl,?hy25⟩) hHeld ?rest25
    case hy25=>(intro w hSw;(try dsimp only at hSw);go_simp;(try with_reducible rfl))
    try simp only[Act.put,Lg,Lh,Li]
    refine doH (i:=10) (by kernel_rfl) rfl (fun K' hK=>?_);go_simp;refine hK.out _ _ HS22.out (fun hX=>?_)
    try simp only[Act.put,Lg,Lh,Li]
    refine wpAnyH_done (by kernel_rfl) ?_ _;clear hrun22 hs22 HS22 hHeld hX;obtain⟨AO,cO,eO,-,-,-,-⟩:=Zz HM4.out.mi.of;have cm5:wM.cell? ⟨m,5,none⟩=some (.slice AO T1.of.length cO):=((Za HM4.out.mi.blk).1 5).trans (congrArg some eO);have cm3r:wM.cell? ⟨m,3,none⟩=some (r3.vS):=(Za HM4.out.mi.blk).1 3;have hs23:wM.drew.cell? ⟨mv,0,none⟩=some (.pointer (some ⟨m,0,none⟩))/\wM.drew.cell? ⟨b9,0,none⟩=some (.int .i64 k)/\wM.drew.cell? ⟨b9,1,none⟩=some (.int .i64 pt.2.1)/\wM.drew.cell? ⟨b9,2,none⟩=some (.int .i64 pt.2.2)/\wM.drew.cell? ⟨m,5,none⟩=some (.slice AO T1.of.length cO)/\wM.drew.cell? ⟨b10,4,none⟩=some (.int .i64 n):=⟨cv4,c94a,c94b,c94c,cm5,cn4.trans (by rw[hn])⟩
    have HS23:=hid (show ∀ W',Chg (MQ ⟨m,vt,vM,ft,fM,mb⟩ r1) W1 W'->W'.cell? ⟨m,5,none⟩=some (.slice AO T1.of.length cO)->W'.cell? ⟨mv,0,none⟩=some (.pointer (some ⟨m,0,none⟩))/\W'.cell? ⟨b9,0,none⟩=some (.int .i64 k)/\W'.cell? ⟨b9,1,none⟩=some (.int .i64 pt.2.1)/\W'.cell? ⟨b9,2,none⟩=some (.int .i64 pt.2.2)/\W'.cell? ⟨m,5,none⟩=some (.slice AO T1.of.length cO)/\W'.cell? ⟨b10,4,none⟩=some (.int .i64 n) from fun W' hc h5=>by
     obtain⟨e1,-,⟨e2,e3,e4⟩,-,-,e5⟩:=HR.out W' hc
     exact⟨e1,e2,e3,e4,h5,e5.trans (by rw[hn])⟩)
    clear cv4 cf4 c94a c94b c94c cn4;gi_upto_region 23 with (fail)
    refine Vq (fun W'=>W'.cell? ⟨mv,0,none⟩=some (.pointer (some ⟨m,0,none⟩))/\W'.cell? ⟨b9,0,none⟩=some (.int .i64 k)/\W'.cell? ⟨b9,1,none⟩=some (.int .i64 pt.2.1)/\W'.cell? ⟨b9,2,none⟩=some (.int .i64 pt.2.2)/\W'.cell? ⟨m,5,none⟩=some (.slice AO T1.of.length cO)/\W'.cell? ⟨b10,4,none⟩=some (.int .i64 n)) (by kernel_rfl) (Uk (by kernel_rfl)) (by rintro⟨_,_,h⟩;exact h) hs23 (fun hHeld=>?_);refine Yb (i:=0) (v:=?v26) rfl (by kernel_rfl) (by kernel_rfl) (by kernel_rfl) (fun _ _ _ h=>h) (Or.inl ⟨by rfl,?hy26⟩) hHeld ?rest26
    case hy26=>(intro w hSw;(try dsimp only at hSw);go_simp;(try with_reducible rfl))
    try simp only[Act.put,Lg,Lh,Li]
    refine Yb (i:=1) (v:=?v27) rfl (by kernel_rfl) (by kernel_rfl) (by kernel_rfl) (fun _ _ _ h=>h) (Or.inl ⟨by rfl,?hy27⟩) hHeld ?rest27
    case hy27=>(intro w hSw;(try dsimp only at hSw);go_simp;(try with_reducible rfl))
    try simp only[Act.put,Lg,Lh,Li]
    refine Yb (i:=2) (v:=?v28) rfl (by kernel_rfl) (by kernel_rfl) (by kernel_rfl) (fun _ _ _ h=>h) (Or.inl ⟨by rfl,?hy28⟩) hHeld ?rest28
    case hy28=>(intro w hSw;(try dsimp only at hSw);go_simp;(try with_reducible rfl))
    try simp only[Act.put,Lg,Lh,Li]
    refine Yb (i:=3) (v:=?v29) rfl (by kernel_rfl) (by kernel_rfl) (by kernel_rfl) (fun _ _ _ h=>h) (Or.inl ⟨by rfl,?hy29⟩) hHeld ?rest29
    case hy29=>(intro w hSw;(try dsimp only at hSw);go_simp;(try with_reducible rfl))
    try simp only[Act.put,Lg,Lh,Li]
    refine Yb (i:=5) (v:=?v30) rfl (by kernel_rfl) (by kernel_rfl) (by kernel_rfl) (fun _ _ _ h=>h) (Or.inl ⟨by rfl,?hy30⟩) hHeld ?rest30
    case hy30=>(intro w hSw;(try dsimp only at hSw);go_simp;(try with_reducible rfl))
    try simp only[Act.put,Lg,Lh,Li]
    refine Yb (i:=6) (v:=?v31) rfl (by kernel_rfl) (by kernel_rfl) (by kernel_rfl) (fun _ _ _ h=>h) (Or.inl ⟨by rfl,?hy31⟩) hHeld ?rest31
    case hy31=>(intro w hSw;(try dsimp only at hSw);go_simp;(try with_reducible rfl))
    try simp only[Act.put,Lg,Lh,Li]
    refine Yb (i:=7) (v:=?v32) rfl (by kernel_rfl) (by kernel_rfl) (by kernel_rfl) (fun _ _ _ h=>h) (Or.inl ⟨by rfl,?hy32⟩) hHeld ?rest32
    case hy32=>(intro w hSw;(try dsimp only at hSw);go_simp;(try with_reducible rfl))
    try simp only[Act.put,Lg,Lh,Li]
    refine Yb (i:=8) (v:=?v33) rfl (by kernel_rfl) (by kernel_rfl) (by kernel_rfl) (fun _ _ _ h=>h) (Or.inl ⟨by rfl,?hy33⟩) hHeld ?rest33
    case hy33=>(intro w hSw;(try dsimp only at hSw);go_simp;(try with_reducible rfl))
    try simp only[Act.put,Lg,Lh,Li]
    refine Yb (i:=9) (v:=?v34) rfl (by kernel_rfl) (by kernel_rfl) (by kernel_rfl) (fun _ _ _ h=>h) (Or.inl ⟨by rfl,?hy34⟩) hHeld ?rest34
    case hy34=>(intro w hSw;(try dsimp only at hSw);go_simp;(try with_reducible rfl))
    try simp only[Act.put,Lg,Lh,Li]
    refine Yb (i:=10) (v:=?v35) rfl (by kernel_rfl) (by kernel_rfl) (by kernel_rfl) (fun _ _ _ h=>h) (Or.inl ⟨by rfl,?hy35⟩) hHeld ?rest35
    case hy35=>(intro w hSw;(try dsimp only at hSw);go_simp;(try with_reducible rfl))
    try simp only[Act.put,Lg,Lh,Li]
    refine Yb (i:=11) (v:=?v36) rfl (by kernel_rfl) (by kernel_rfl) (by kernel_rfl) (fun _ _ _ h=>h) (Or.inl ⟨by rfl,?hy36⟩) hHeld ?rest36
    case hy36=>(intro w hSw;(try dsimp only at hSw);go_simp;(try with_reducible rfl))
    try simp only[Act.put,Lg,Lh,Li]
    refine Yb (i:=12) (v:=?v37) rfl (by kernel_rfl) (by kernel_rfl) (by kernel_rfl) (fun _ _ _ h=>h) (Or.inl ⟨by rfl,?hy37⟩) hHeld ?rest37
    case hy37=>(intro w hSw;(try dsimp only at hSw);go_simp;(try with_reducible rfl))
    try simp only[Act.put,Lg,Lh,Li]
    refine Yb (i:=13) (v:=?v38) rfl (by kernel_rfl) (by kernel_rfl) (by kernel_rfl) (fun _ _ _ h=>h) (Or.inl ⟨by rfl,?hy38⟩) hHeld ?rest38
    case hy38=>(intro w hSw;(try dsimp only at hSw);go_simp;(try with_reducible rfl))
    try simp only[Act.put,Lg,Lh,Li]
    obtain⟨Wb,hWb⟩:∃ Wb:World,Wb=(wM.alloc (.cells #[.int .i64 k,.int .i64 pt.2.1,.int .i64 pt.2.2,.int .i64 T1.of.length,.int .i64 n] 119)).drew:=⟨_,rfl⟩
    have hgB:wM.grownBy Wb none:=by rw[hWb];exact Zf (Lc wM _ none)
    have cmb5:Wb.cell? ⟨m,5,none⟩=some (.slice AO T1.of.length cO):=(Lj (hgB.block m (Ze HM4.out.mi.blk) (by simp))).trans cm5;have cmb3:Wb.cell? ⟨m,3,none⟩=some (r3.vS):=(Lj (hgB.block m (Ze HM4.out.mi.blk) (by simp))).trans cm3r;have hSb:=HS23.out Wb (HM4.out.chg.trans (Chg.grown (Q:=fun _=>False) hgB (fun r e=>by cases e)) (fun _ _ e=>e.elim)) cmb5;have hbb:Wb.heap[wM.heap.size]?=some (.cells #[.int .i64 k,.int .i64 pt.2.1,.int .i64 pt.2.2,.int .i64 T1.of.length,.int .i64 n] 119 (0,0)):=by rw[hWb];exact La wM _
    have hob:Wb.ownsRow base 119 5 r3.vS T1.sites.length (T1.sites.flatMap Qc):=(Chg.grown (Q:=fun _=>False) hgB (fun r e=>by cases e)).owns HM4.out.mi.sites (fun _ _ e=>e);have HWb:=hid hWb;clear hWb
    apply Zpq
    case use=>
     intro key;refine doH2 (i:=4) (j:=14) (by kernel_rfl) rfl rfl (fun K' hK=>?_) (fun K' hK=>?_)
     ·go_simp;refine hK.out _ _ hHeld (fun hHeld=>?_)
      try simp only[Act.put,Lg,Lh,Li]
      refine doH (i:=14) (by kernel_rfl) rfl (fun K' hK=>?_);go_simp;rw[<-HWb.out];refine hK.out _ _ hSb (fun _=>?_)
      try simp only[Act.put,Lg,Lh,Li]
      exact key
     ·go_simp;rw[<-HWb.out];refine hK.out _ _ hSb (fun _=>?_)
      try simp only[Act.put,Lg,Lh,Li]
      refine doH (i:=4) (by kernel_rfl) rfl (fun K' hK=>?_);go_simp;refine hK.out _ _ hSb (fun _=>?_)
      try simp only[Act.put,Lg,Lh,Li]
      rw[Array.setIfInBounds_comm (i:=14) (j:=4) true true (by decide)];exact key
    clear hs23 hHeld cm3r cm5;refine doH (i:=15) (by kernel_rfl) rfl (fun K' hK=>?_);refine Uw rfl (.tmp 128) (.tmp 138) 110 rfl base 119 _ 5 40 Tryz.underlying110 infoSi rfl (by decide) r3.vS (T1.sites.flatMap Qc) T1.sites.length rfl hob wM.heap.size (Qc ((k,pt.2.1,pt.2.2),T1.of.length,n)) rfl (by simp[Qc,Value.oneCell']) rfl _ _ hbb rfl (by have:=Hlim.out;unfold maxLen;omega) (by have:=Hlim.out;omega) (by have:=hgB.size;have:=HM4.out.chg.size;omega) ?_;intro g5 c5' w5' ho5 hg5 hor5
    obtain⟨hb5,M5⟩:=HM4.out.rowS (q:=((k,pt.2.1,pt.2.2),T1.of.length,n)) hgB hg5 ho5 (fun g' e=>by
     simp only[Value.ownBlock,Option.map_some,Option.some.injEq] at e
     subst e
     rcases hor5 with e|e
     ·exact .inl e
     ·exact .inr (by omega))
    obtain⟨cm5c,fm5c⟩:=Za hb5;have cm53:=cm5c 3;have fm53:=fm5c 3;have cm55:w5'.cell? ⟨m,5,none⟩=some (.slice AO T1.of.length cO):=(cm5c 5).trans (congrArg some eO);have hS5:=HS23.out w5' (HM4.out.chg.trans ((Chg.grown (Q:=MQ ⟨m,vt,vM,ft,fM,mb⟩ r3) hgB (fun r e=>by cases e)).trans (Chg.grown (Q:=MQ ⟨m,vt,vM,ft,fM,mb⟩ r3) hg5 (fun r e=>by simp[MQ,Xn,e])) (fun _ _ e=>e)) (fun n hn e=>Classical.byContradiction fun h=>HM4.out.old hn h e)) cm55;have cm65:(w5'.setCell ⟨m,3,none⟩ (.slice (some ⟨g5,0,none⟩) (T1.sites.length+1) c5')).cell? ⟨m,5,none⟩=some (.slice AO T1.of.length cO):=((Za M5.mi.blk).1 5).trans (congrArg some eO);have hS6:=HS23.out _ M5.chg cm65;have HS6:=hid hS6;clear cm5c fm5c hb5 ho5 hg5 hor5 hob hbb cmb5 cmb3 hSb hgB cm55 cm65 hS6;refine hK.out _ _ hS5 (fun hHeld=>?_)
    try simp only[Act.put,Lg,Lh,Li]
    refine Yb (i:=16) (v:=?v39) rfl (by kernel_rfl) (by kernel_rfl) (by kernel_rfl) (fun _ _ _ h=>h) (Or.inl ⟨by rfl,?hy39⟩) hHeld ?rest39
    case hy39=>(intro w hSw;(try dsimp only at hSw);go_simp;(try with_reducible rfl))
    try simp only[Act.put,Lg,Lh,Li]
    refine Yb (i:=17) (v:=?v40) rfl (by kernel_rfl) (by kernel_rfl) (by kernel_rfl) (fun _ _ _ h=>h) (Or.inl ⟨by rfl,?hy40⟩) hHeld ?rest40
    case hy40=>(intro w hSw;(try dsimp only at hSw);go_simp;(try with_reducible rfl))
    try simp only[Act.put,Lg,Lh,Li]
    refine doH (i:=18) (by kernel_rfl) rfl (fun K' hK=>?_);go_simp;refine hK.out _ _ HS6.out (fun _=>?_);refine wpAnyH_done (by kernel_rfl) ?_ _;obtain⟨r4,hr4⟩:∃ r4:Rw,r4={ r3 with vS:=.slice (some ⟨g5,0,none⟩) (T1.sites.length+1) c5' }:=⟨_,rfl⟩
    rw[<-hr4] at M5;obtain⟨wQ,hwQ⟩:∃ wQ,wQ=w5'.setCell ⟨m,3,none⟩ (.slice (some ⟨g5,0,none⟩) (T1.sites.length+1) c5'):=⟨_,rfl⟩
    rw[<-hwQ] at M5 ⊢;have HM6:=hid (show Made W1 r1 base ⟨m,vt,vM,ft,fM,mb⟩ vp wQ r4 (T1.site (k,pt.2.1,pt.2.2) n) ns from M5);obtain⟨cv6,cf6,-,-,-,cn6⟩:=HR.out wQ HM6.out.chg;rw[hn] at cn6;clear hwQ hr4 M5 cm53 fm53 hS5 HS6 HS23 HM4 eO;have hl6:T1.of.length+64<=600000:=by have:=Hlim.out;omega
    have Hl6:=hid hl6;clear hl6;gi_wp2_with fail;clear cv6 cf6 cn6;gi_loopw [144] (fun s144 wx=>∃ j:Nat,j<=n/\s144=.int .i64 j/\Hid (∃ r',Made W1 r1 base ⟨m,vt,vM,ft,fM,mb⟩ vp wx r' ((T1.site (k,pt.2.1,pt.2.2) n).fld j) ns)) (fun s144 _=>n-(intOf s144).toNat)
    case atStart=>
     have e0:(T1.site (k,pt.2.1,pt.2.2) n).fld 0=T1.site (k,pt.2.1,pt.2.2) n:=by simp[SSt.fld]
     exact⟨0,Ln _,rfl,r4,by rw[e0];exact HM6.out⟩
    case round=>
     obtain⟨j,hj,rfl,hJ⟩:=hrel;obtain⟨r7,M7⟩:=hJ.out;have HM7:=hid M7;clear M7 hJ HM6
     by_cases hlj:j<n
     ·skip
      obtain⟨s7,hs7⟩:∃ s7,s7=(T1.site (k,pt.2.1,pt.2.2) n).fld j:=⟨_,rfl⟩
      have h7s:s7.sites.length=T1.sites.length+1:=by rw[hs7];simp[SSt.fld,SSt.site]
      have h7o:s7.of.length=T1.of.length+j:=by rw[hs7];simp[SSt.fld,SSt.site]
      have H7n:=hid (show (T1.site (k,pt.2.1,pt.2.2) n).fld (j+1)={ s7 with of:=s7.of++[T1.sites.length] } from by rw[hs7];simp[SSt.fld,SSt.site,List.replicate_succ']);have H7o:=hid h7o;rw[<-hs7] at HM7;obtain⟨AS7,cS7,eS7,-,-,-,-⟩:=Zz HM7.out.mi.sites;rw[h7s] at eS7;have cm73:wr.cell? ⟨m,3,none⟩=some (.slice AS7 (T1.sites.length+1) cS7):=((Za HM7.out.mi.blk).1 3).trans (congrArg some eS7);have cm75:wr.cell? ⟨m,5,none⟩=some (r7.vO):=(Za HM7.out.mi.blk).1 5;obtain⟨cv7,-,-,-,-,-⟩:=HR.out wr HM7.out.chg;have hs26:wr.drew.cell? ⟨mv,0,none⟩=some (.pointer (some ⟨m,0,none⟩))/\wr.drew.cell? ⟨m,3,none⟩=some (.slice AS7 (T1.sites.length+1) cS7):=⟨cv7,cm73⟩
      have HS26:=hid (show ∀ W',Chg (MQ ⟨m,vt,vM,ft,fM,mb⟩ r1) W1 W'->W'.cell? ⟨m,3,none⟩=some (.slice AS7 (T1.sites.length+1) cS7)->W'.cell? ⟨mv,0,none⟩=some (.pointer (some ⟨m,0,none⟩))/\W'.cell? ⟨m,3,none⟩=some (.slice AS7 (T1.sites.length+1) cS7) from fun W' hc h3=>⟨(HR.out W' hc).1,h3⟩);have hw1:IntKind.i64.wrap (T1.sites.length:Int)=(T1.sites.length:Int):=by rw[IntKind.wrap_i64];have:=Hlim.out;omega
      have hw2:IntKind.i64.wrap ((T1.sites.length:Int)+1-1)=(T1.sites.length:Int):=by rw[IntKind.wrap_i64];have:=Hlim.out;omega
      have HeS:=hid eS7;clear h7s h7o hs7 eS7 cm73 cv7;gi_upto_region 26 with (fail)
      refine Vq (fun W'=>W'.cell? ⟨mv,0,none⟩=some (.pointer (some ⟨m,0,none⟩))/\W'.cell? ⟨m,3,none⟩=some (.slice AS7 (T1.sites.length+1) cS7)) (by kernel_rfl) (Uk (by kernel_rfl)) (by rintro⟨_,_,h⟩;exact h) hs26 (fun hHeld=>?_);refine Yb (i:=0) (v:=?v41) rfl (by kernel_rfl) (by kernel_rfl) (by kernel_rfl) (fun _ _ _ h=>h) (Or.inl ⟨by rfl,?hy41⟩) hHeld ?rest41
      case hy41=>(intro w hSw;(try dsimp only at hSw);go_simp;(try with_reducible rfl))
      try simp only[Act.put,Lg,Lh,Li]
      refine Yb (i:=1) (v:=?v42) rfl (by kernel_rfl) (by kernel_rfl) (by kernel_rfl) (fun _ _ _ h=>h) (Or.inl ⟨by rfl,?hy42⟩) hHeld ?rest42
      case hy42=>(intro w hSw;(try dsimp only at hSw);go_simp;(try with_reducible rfl))
      try simp only[Act.put,Lg,Lh,Li]
      refine Yb (i:=2) (v:=?v43) rfl (by kernel_rfl) (by kernel_rfl) (by kernel_rfl) (fun _ _ _ h=>h) (Or.inl ⟨by rfl,?hy43⟩) hHeld ?rest43
      case hy43=>(intro w hSw;(try dsimp only at hSw);go_simp;(try with_reducible rfl))
      try simp only[Act.put,Lg,Lh,Li]
      refine Yb (i:=3) (v:=?v44) rfl (by kernel_rfl) (by kernel_rfl) (by kernel_rfl) (fun _ _ _ h=>h) (Or.inl ⟨by rfl,?hy44⟩) hHeld ?rest44
      case hy44=>(intro w hSw;(try dsimp only at hSw);go_simp;(try with_reducible rfl))
      try simp only[Act.put,Lg,Lh,Li]
      refine Yb (i:=5) (v:=?v45) rfl (by kernel_rfl) (by kernel_rfl) (by kernel_rfl) (fun _ _ _ h=>h) (Or.inl ⟨by rfl,?hy45⟩) hHeld ?rest45
      case hy45=>(intro w hSw;(try dsimp only at hSw);go_simp;(try with_reducible rfl))
      try simp only[Act.put,Lg,Lh,Li]
      refine Yb (i:=6) (v:=?v46) rfl (by kernel_rfl) (by kernel_rfl) (by kernel_rfl) (fun _ _ _ h=>h) (Or.inl ⟨by rfl,?hy46⟩) hHeld ?rest46
      case hy46=>(intro w hSw;(try dsimp only at hSw);go_simp;(try with_reducible rfl))
      try simp only[Act.put,Lg,Lh,Li]
      refine Yb (i:=7) (v:=?v47) rfl (by kernel_rfl) (by kernel_rfl) (by kernel_rfl) (fun _ _ _ h=>h) (Or.inl ⟨by rfl,?hy47⟩) hHeld ?rest47
      case hy47=>(intro w hSw;(try dsimp only at hSw);go_simp;(try with_reducible rfl))
      try simp only[Act.put,Lg,Lh,Li]
      refine Yb (i:=8) (v:=?v48) rfl (by kernel_rfl) (by kernel_rfl) (by kernel_rfl) (fun _ _ _ h=>h) (Or.inl ⟨by rfl,?hy48⟩) hHeld ?rest48
      case hy48=>(intro w hSw;(try dsimp only at hSw);go_simp;(try with_reducible rfl))
      try simp only[Act.put,Lg,Lh,Li]
      refine Yb (i:=9) (v:=?v49) rfl (by kernel_rfl) (by kernel_rfl) (by kernel_rfl) (fun _ _ _ h=>h) (Or.inl ⟨by rfl,?hy49⟩) hHeld ?rest49
      case hy49=>(intro w hSw;(try dsimp only at hSw);go_simp;(try with_reducible rfl))
      try simp only[Act.put,Lg,Lh,Li]
      refine Yb (i:=10) (v:=?v50) rfl (by kernel_rfl) (by kernel_rfl) (by kernel_rfl) (fun _ _ _ h=>h) (Or.inl ⟨by rfl,?hy50⟩) hHeld ?rest50
      case hy50=>(intro w hSw;(try dsimp only at hSw);go_simp;(try with_reducible rfl))
      try simp only[Act.put,Lg,Lh,Li]
      obtain⟨Wc,hWc⟩:∃ Wc:World,Wc=(wr.alloc (.cells #[.int .i64 T1.sites.length] 3)).drew:=⟨_,rfl⟩
      have hgC:wr.grownBy Wc none:=by rw[hWc];exact Zf (Lc wr _ none)
      have cmc3:Wc.cell? ⟨m,3,none⟩=some (.slice AS7 (T1.sites.length+1) cS7):=(Lj (hgC.block m (Ze HM7.out.mi.blk) (by simp))).trans (((Za HM7.out.mi.blk).1 3).trans (congrArg some HeS.out));have cmc5:Wc.cell? ⟨m,5,none⟩=some (r7.vO):=(Lj (hgC.block m (Ze HM7.out.mi.blk) (by simp))).trans cm75;have hSc:=HS26.out Wc (HM7.out.chg.trans (Chg.grown (Q:=fun _=>False) hgC (fun r e=>by cases e)) (fun _ _ e=>e.elim)) cmc3;have hbc:Wc.heap[wr.heap.size]?=some (.cells #[.int .i64 T1.sites.length] 3 (0,0)):=by rw[hWc];exact La wr _
      have hoc:Wc.ownsRow base 3 1 r7.vO s7.of.length (s7.of.map Z4):=(Chg.grown (Q:=fun _=>False) hgC (fun r e=>by cases e)).owns HM7.out.mi.of (fun _ _ e=>e);have HWc:=hid hWc;clear hWc cmc3
      apply Zpq
      case use=>
       intro key;refine doH2 (i:=4) (j:=11) (by kernel_rfl) rfl rfl (fun K' hK=>?_) (fun K' hK=>?_)
       ·go_simp;refine hK.out _ _ hHeld (fun hHeld=>?_)
        try simp only[Act.put,Lg,Lh,Li]
        refine doH (i:=11) (by kernel_rfl) rfl (fun K' hK=>?_);go_simp;rw[<-HWc.out];refine hK.out _ _ hSc (fun _=>?_)
        try simp only[Act.put,Lg,Lh,Li]
        exact key
       ·go_simp;rw[<-HWc.out];refine hK.out _ _ hSc (fun _=>?_)
        try simp only[Act.put,Lg,Lh,Li]
        refine doH (i:=4) (by kernel_rfl) rfl (fun K' hK=>?_);go_simp;refine hK.out _ _ hSc (fun _=>?_)
        try simp only[Act.put,Lg,Lh,Li]
        rw[Array.setIfInBounds_comm (i:=11) (j:=4) true true (by decide)];exact key
      clear hs26 hHeld cm75;refine doH (i:=12) (by kernel_rfl) rfl (fun K' hK=>?_);refine Uw rfl (.tmp 150) (.tmp 157) 84 rfl base 3 _ 1 8 Tryz.underlying84 Yin rfl (by decide) r7.vO (s7.of.map Z4) s7.of.length rfl hoc wr.heap.size [Z4 T1.sites.length] rfl (by simp[Z4,Value.oneCell']) rfl _ _ hbc rfl (by have:=Hl6.out;have:=H7o.out;have:=Hnl.out;unfold maxLen;omega) (by have:=Hl6.out;have:=H7o.out;have:=Hnl.out;omega) (by have:=hgC.size;have:=HM7.out.chg.size;omega) ?_;intro g8 c8 w8 ho8 hg8 hor8
      obtain⟨hb8,M8⟩:=HM7.out.rowO (q:=T1.sites.length) hgC hg8 ho8 (fun g' e=>by
       simp only[Value.ownBlock,Option.map_some,Option.some.injEq] at e
       subst e
       rcases hor8 with e|e
       ·exact .inl e
       ·exact .inr (by omega))
      obtain⟨cm8c,fm8c⟩:=Za hb8;have cm85:=cm8c 5;have fm85:=fm8c 5;have cm83:w8.cell? ⟨m,3,none⟩=some (.slice AS7 (T1.sites.length+1) cS7):=(cm8c 3).trans (congrArg some HeS.out);have hS8:=HS26.out w8 (HM7.out.chg.trans ((Chg.grown (Q:=MQ ⟨m,vt,vM,ft,fM,mb⟩ r7) hgC (fun r e=>by cases e)).trans (Chg.grown (Q:=MQ ⟨m,vt,vM,ft,fM,mb⟩ r7) hg8 (fun r e=>by simp[MQ,Xn,e])) (fun _ _ e=>e)) (fun n hn e=>Classical.byContradiction fun h=>HM7.out.old hn h e)) cm83;have hS9:=HS26.out _ M8.chg (((Za M8.mi.blk).1 3).trans (congrArg some HeS.out));have HS9':=hid hS9;clear cm8c fm8c hb8 ho8 hg8 hor8 hoc hbc cmc5 hSc hgC cm83 hS9;refine hK.out _ _ hS8 (fun hHeld=>?_)
      try simp only[Act.put,Lg,Lh,Li]
      refine Yb (i:=13) (v:=?v51) rfl (by kernel_rfl) (by kernel_rfl) (by kernel_rfl) (fun _ _ _ h=>h) (Or.inl ⟨by rfl,?hy51⟩) hHeld ?rest51
      case hy51=>(intro w hSw;(try dsimp only at hSw);go_simp;(try with_reducible rfl))
      try simp only[Act.put,Lg,Lh,Li]
      refine Yb (i:=14) (v:=?v52) rfl (by kernel_rfl) (by kernel_rfl) (by kernel_rfl) (fun _ _ _ h=>h) (Or.inl ⟨by rfl,?hy52⟩) hHeld ?rest52
      case hy52=>(intro w hSw;(try dsimp only at hSw);go_simp;(try with_reducible rfl))
      try simp only[Act.put,Lg,Lh,Li]
      refine doH (i:=15) (by kernel_rfl) rfl (fun K' hK=>?_);go_simp;refine hK.out _ _ HS9'.out (fun _=>?_);refine wpAnyH_done (by kernel_rfl) ?_ _;have hj64:(j:Int)+1<=64:=by have:=Hnl.out;omega
      gi_wp2_with fail;go_roundw
      case rel=>exact⟨j+1,by omega,by go_num,hid ⟨_,by rw[H7n.out];exact M8⟩⟩
      case measure=>simp[intOf];omega
     ·obtain rfl:j=n:=by omega
      gi_wp2_with fail;exact HFin.out wr r7 (by rw[Hins.out];exact HM7.out)

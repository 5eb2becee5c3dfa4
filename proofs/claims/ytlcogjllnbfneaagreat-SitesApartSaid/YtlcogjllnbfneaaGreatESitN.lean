/- sites. Conditions in it. -/
import Derived.Test.YtlcogjllnbfneaaGreatESitB
import Derived.Test.YtlcogjllnbfneaaGreatESndChk
set_option maxHeartbeats 8000000
set_option maxRecDepth 100000
set_option linter.all false
namespace Go.Proofs.YtlcogjllnbfneaaGreat
open Lib(hid)
open Go.RowKit Go.Shelf
attribute [local go_sem] Oper.semAt_some
theorem Znb {p:GProg} (h:(Y5 p).1=0):Y5 p=(0,(0,0,0)):=by
 by_cases h0:(Yc p).1=0
 ·rcases Zch h0 with ⟨_,⟨e,_⟩|⟨e,_⟩⟩|⟨r,pt,hr,_,e⟩
  ·rw[e] at h;cases h
  ·exact e
  ·rw[e] at h;simp only at h;subst h;exact absurd hr (by decide)
 ·rw[Qm h0] at h;exact absurd h h0
theorem Zkd (p:GProg) (vp:Value) (w:World) (B:Nat) (hB:B<=w.heap.size) (h:ProgAt w B vp p) (hne:(Y5 p).1≠0):
  Calls Tryz.prog 16 #[.agg #[vp]] w fun e w'=>e=.returned (.tuple #[.pointer none,.int .i64 5])/\w.grownBy w' none:=by
 obtain⟨A,c,rfl,hm,_,_,_⟩:=h.open_;obtain⟨W,hW⟩:∃ W:World,W=w.alloc (.cells #[.slice A p.length c] 47):=⟨_,rfl⟩
 have hg:w.grownBy W none:=by rw[hW];exact Lc _ _ _
 have hb:W.heap[w.heap.size]?=some (.cells #[.slice A p.length c] 47 (0,0)):=by rw[hW];exact La _ _
 have hck:=Zii p _ B W (Nat.le_trans hB hg.size) (h.below funR.keeps (Zk hg) hB);have c0:W.cell? ⟨w.heap.size,0,none⟩=some (.slice A p.length c):=(Za hb).1 0
 cases hsc:Y5 p with
 |mk r pt=>
  obtain⟨p1,p2,p3⟩:=pt;rw[hsc] at hck hne;simp only[X9,Uo] at hck;have hr:¬ (r:Int)=0:=by simp only at hne;omega
  have Hg:=hid hg;clear h hg hb hsc hne;go_enter Tryz.func16,Tryz.ntmps16;go_upto_region 1 with (fail)
  rw[<-hW];clear hW;go_wp2_with (go_at_call 11;refine hck.mono ?_;rintro e w3 ⟨rfl,hg3⟩);go_ret2;exact⟨by first|rfl|simp,Zb Hg.out hg3⟩
theorem Zkc (p:GProg) (vp:Value) (w:World) (B:Nat) (hB:B<=w.heap.size) (h:ProgAt w B vp p) (hok:CpOk p) (hz:(Y5 p).1=0):
  Calls Tryz.prog 16 #[.agg #[vp]] w fun e w'=>∃ m,e=.returned (.tuple #[.pointer (some ⟨m,0,none⟩),.int .i64 0])/\MapL w.heap.size w' m p/\w.grownBy w' none:=by
 obtain⟨A,c,rfl,hm,_,_,_⟩:=h.open_;obtain⟨W,hW⟩:∃ W:World,W=w.alloc (.cells #[.slice A p.length c] 47):=⟨_,rfl⟩
 have hg:w.grownBy W none:=by rw[hW];exact Lc _ _ _
 have hb:W.heap[w.heap.size]?=some (.cells #[.slice A p.length c] 47 (0,0)):=by rw[hW];exact La _ _
 have hck:=Zii p _ B W (Nat.le_trans hB hg.size) (h.below funR.keeps (Zk hg) hB)
 have HN:=hid (show NOk p from (Zkb (by
  by_cases h0:(Yc p).1=0
  ·exact h0
  ·exact absurd (by rw[<-Qm h0];exact hz) h0)).2)
 rw[Znb hz] at hck;simp only[X9,Uo] at hck;have c0:W.cell? ⟨w.heap.size,0,none⟩=some (.slice A p.length c):=(Za hb).1 0;have Hat:=hid (show ∀ W':World,W.grownBy W' none->W'.cell? ⟨w.heap.size,0,none⟩=some (.slice A p.length c) from fun W' hg'=>(Lj (hg'.block _ (Ze hb) (by simp))).trans c0);have hpr:=fun (W':World) (hg':W.grownBy W' none)=>Zdv p _ W' B (by have:=hg.size;have:=hg'.size;omega) (h.below funR.keeps (Zk (Zb hg hg')) hB) hok
 have Hpr:=hid hpr;have Hg:=hid hg;have hmm:∀ w:World,(Instr.makeMap 109 none).run Tryz.prog w=.ok (.map (some w.heap.size)) (w.alloc (Z7 Ve Z4 [])):= @run_makeMap Tryz.prog 109;clear h hg hb hz hpr;refine (callsIn_wide (n:=9)).1 ?_;refine callsIn_of_wp_marks Tryz.func16 rfl trivial ?_ rfl;refine wpIn_wide.2 ?_;simp only[Tryz.ntmps16,List.size_toArray,List.length_cons,List.length_nil,Nat.reduceAdd,Nat.reduceSub,Array.replicate_succ,Array.replicate_zero,List.push_toArray,List.append_toArray,List.nil_append,List.cons_append];go_upto_region 1 with (fail)
 rw[<-hW];clear hW;go_upto_region 3 with (first|(go_at_call 11;refine hck.mono ?_;rintro e w3 ⟨rfl,hg3⟩))
 have c1:=Hat.out _ hg3;have hcp:=Hpr.out _ hg3;go_upto_region 4 with (first|(go_at_call 60;refine hcp.mono ?_;rintro e w4 ⟨v4,rfl,h41,h42,hg4⟩;obtain⟨A4,c4,rfl,m4,l4,x4,_⟩:=(h42 _ _ (SupI.refl _ _)).open_;clear hcp c1 x4)|(go_at_call 61;refine (Zvh _).mono ?_;rintro e w5 ⟨rfl,hg5,hs5,hL⟩)|(go_at_call 62;refine (Zvi _).mono ?_;rintro e w6 ⟨rfl,hg6,hs6,hS⟩))
 obtain⟨w7,hw7⟩:∃ w7:World,w7=((w6.alloc (Z7 Ve Z4 [])).alloc (.cells #[.slice A4 p.length c4,.pointer (some ⟨w4.heap.size+1,0,none⟩),.pointer (some ⟨w4.heap.size+2+1,0,none⟩),.slice none 0 0,.map (some (w4.heap.size+2+2)),.slice none 0 0,.slice none 0 0] 112)).alloc (.cells #[.pointer (some ⟨w4.heap.size+2+2+1,0,none⟩)] 51):=⟨_,rfl⟩
 have hs7:w7.heap.size=w4.heap.size+7:=by rw[hw7];simp[hs6,hs5]
 have hz6:w6.heap.size=w4.heap.size+2+2:=by rw[hs6,hs5]
 have hm7:w7.heap[w4.heap.size+2+2+1]?=some (.cells #[.slice A4 p.length c4,.pointer (some ⟨w4.heap.size+1,0,none⟩),.pointer (some ⟨w4.heap.size+2+1,0,none⟩),.slice none 0 0,.map (some (w4.heap.size+2+2)),.slice none 0 0,.slice none 0 0] 112 (0,0)):=by
  have:=La (w6.alloc (Z7 Ve Z4 [])) (.cells #[.slice A4 p.length c4,.pointer (some ⟨w4.heap.size+1,0,none⟩),.pointer (some ⟨w4.heap.size+2+1,0,none⟩),.slice none 0 0,.map (some (w4.heap.size+2+2)),.slice none 0 0,.slice none 0 0] 112);simp only[World.size_alloc,hz6] at this;rw[hw7];exact Zc this _
 have hb7:w7.heap[w4.heap.size+2+2]?=some (Z7 Ve Z4 []):=by
  rw[hw7];refine Zc (Zc ?_ _) _;rw[<-hz6];exact La _ _
 have hv7:w7.heap[w4.heap.size+2+2+1+1]?=some (.cells #[.pointer (some ⟨w4.heap.size+2+2+1,0,none⟩)] 51 (0,0)):=by
  have:=La ((w6.alloc (Z7 Ve Z4 [])).alloc (.cells #[.slice A4 p.length c4,.pointer (some ⟨w4.heap.size+1,0,none⟩),.pointer (some ⟨w4.heap.size+2+1,0,none⟩),.slice none 0 0,.map (some (w4.heap.size+2+2)),.slice none 0 0,.slice none 0 0] 112)) (.cells #[.pointer (some ⟨w4.heap.size+2+2+1,0,none⟩)] 51);simp only[World.size_alloc,hz6] at this;rw[hw7];exact this
 have hg67:w6.grownBy w7 none:=by rw[hw7];exact Zd (Zd (Lc _ _ none) _) _
 have hg57:w5.grownBy w7 none:=Zb hg6 hg67;have hg47:w4.grownBy w7 none:=Zb hg5 hg57;have hL7:TabL w7 w7.heap.size (w4.heap.size+1) w4.heap.size (.slice none 0 0) []:=(hL _ (by omega)).chg (Chg.grown (Q:=fun _=>False) hg57 (fun r e=>by cases e)) (fun e=>e) (fun e=>e) (fun _ _ e=>e);have hS7:TabS w7 w7.heap.size (w4.heap.size+2+1) (w4.heap.size+2) (.slice none 0 0) []:=by
  have:=(hS w7.heap.size (by omega)).chg (Chg.grown (Q:=fun _=>False) hg67 (fun r e=>by cases e)) (fun e=>e) (fun e=>e) (fun _ _ e=>e);rw[hs5] at this;exact this
 rw[<-hw7];obtain⟨mv,hmv⟩:∃ x,x=w4.heap.size+2+2+1+1:=⟨_,rfl⟩
 obtain⟨m,hme⟩:∃ x,x=w4.heap.size+2+2+1:=⟨_,rfl⟩
 obtain⟨mb,hmb⟩:∃ x,x=w4.heap.size+2+2:=⟨_,rfl⟩
 obtain⟨ft,hft⟩:∃ x,x=w4.heap.size+2+1:=⟨_,rfl⟩
 obtain⟨fM,hfM⟩:∃ x,x=w4.heap.size+2:=⟨_,rfl⟩
 obtain⟨vt,hvt⟩:∃ x,x=w4.heap.size+1:=⟨_,rfl⟩
 obtain⟨vM,hvM⟩:∃ x,x=w4.heap.size:=⟨_,rfl⟩
 rw[<-hmv,<-hme] at hv7;rw[<-hme,<-hmb,<-hft,<-hvt] at hm7;rw[<-hmb] at hb7;rw[<-hvt,<-hvM] at hL7;rw[<-hft,<-hfM] at hS7;rw[<-hmv,<-hme,<-hmb,<-hft,<-hvt];have M0:Made w7 rw0 w7.heap.size ⟨m,vt,vM,ft,fM,mb⟩ (.slice A4 p.length c4) w7 rw0 (Zh p 0) (Zy p 0):=by
  rw[Vm,Km]
  exact Made.start {
   blk:=hm7,vars:=hL7,funs:=hS7
   sites:=⟨rfl,.inl ⟨rfl,rfl⟩⟩,by_:=hb7,of:=⟨rfl,.inl ⟨rfl,rfl⟩⟩,pts:=⟨rfl,.inl ⟨rfl,rfl⟩⟩
   m1:=show m<w7.heap.size by omega,m2:=show mb<w7.heap.size by omega
   dis:=by simp only[List.nodup_cons,List.mem_cons,List.not_mem_nil,or_false,not_or,List.nodup_nil,and_true,not_false_eq_true];omega
   a1:=⟨.inl rfl,.inl rfl,.inl rfl,.inl rfl⟩,a2:=⟨.inl rfl,.inl rfl,.inl rfl⟩,a3:=⟨.inl rfl,.inl rfl,.inl rfl⟩ }
 have HV:=hid hv7;have HP:=hid h42;have HG:=hid hg47;have cv:w7.cell? ⟨mv,0,none⟩=some (.pointer (some ⟨m,0,none⟩)):=(Za hv7).1 0;obtain⟨cm,-⟩:=Za hm7;have HE:=hid (show mv=w4.heap.size+6/\m=w4.heap.size+5/\mb=w4.heap.size+4/\ft=w4.heap.size+3/\fM=w4.heap.size+2/\vt=w4.heap.size+1/\vM=w4.heap.size/\w7.heap.size=w4.heap.size+7 by omega);clear hw7 hm7 hb7 hv7 hg67 hg57 hg47 hL7 hS7 hg5 hg6 hL hS h42 hmv hme hmb hft hfM hvt hvM hs5 hs6 hs7 hz6;have HM0:=hid M0
 have HB:=hid (show ∀ (W:World) (r:Rw) (s:SSt) (ns:List Str),Made w7 rw0 w7.heap.size ⟨m,vt,vM,ft,fM,mb⟩ (.slice A4 p.length c4) W r s ns->Below w4.heap.size w4 W from fun W r s ns M=>
                   (Zk HG.out).trans ⟨M.chg.os,M.chg.tape,M.chg.output,M.chg.size,fun n hn=>M.chg.block n (by have:=HE.out;omega) (by
                    have:=HE.out
                    simp only[MQ,Xn,Value.ownBlock]
                    simp
                    omega)⟩)
 go_wp2;clear cv cm M0;refine wp_loop (fun a' wr=>∃ (k:Nat) (r:Rw) (ds:List Deferred) (u5 u7 u8 u9 u10 u29 u30 u31 u32 u33 u34 u35 u36 u37 u38 u39 u40 u41 u42 u43 u44 u45 u46 u47 u48 u49 u50 u51 u52 u53 u54 u55 u56 u57 u58 u59 u60 u61 u62 u63 u64 u65 u66 u67 u68 u69 u70 u71 u72 u73 u74 u75 u76 u77 u78 u79 u80 u81 u82 u83 u84 u85 u86 u87 u88 u89 u90 u91 u92 u93 u94 u95 u96 u97 u98 u99 u100 u101 u102 u103 u104 u105 u106 u107 u108 u109 u110 u111 u112 u113 u114 u115 u116 u117 u118 u119 u120 u121 u122 u123 u124 u125 u126 u127 u128 u129 u130 u131 u132 u133 u134 u135 u136 u137 u138 u139 u140 u141 u142 u143 u144 u145 u146 u147 u148 u149 u150 u151 u152 u153 u154 u155 u156 u157 u158 u159 u160 u161 u162:Value),a'={ tmps:= #[.agg #[.slice A p.length c],.pointer (some ⟨w.heap.size,0,none⟩),.pointer none,.int .i64 0,.pointer (some ⟨mv,0,none⟩),u5,undef,u7,u8,u9,u10,.agg #[.slice A p.length c],.agg #[.int .u8 0,.int .i64 0,.int .i64 0,.int .i64 0],.agg #[.int .u8 0,.int .i64 0,.int .i64 0,.int .i64 0],.bool false,.agg #[.slice A p.length c],.agg #[.slice A4 p.length c4],.pointer (some ⟨vt,0,none⟩),.pointer (some ⟨ft,0,none⟩),.map (some mb),.agg #[.slice A4 p.length c4,.pointer (some ⟨vt,0,none⟩),.pointer (some ⟨ft,0,none⟩),.slice none 0 0,.map (some mb),.slice none 0 0,.slice none 0 0],.pointer (some ⟨m,0,none⟩),.pointer (some ⟨m,0,none⟩),.pointer (some ⟨m,0,none⟩),.pointer (some ⟨m,0,none⟩),.pointer (some ⟨m,0,none⟩),.slice A4 p.length c4,.int .i64 p.length,.int .i64 k,u29,u30,u31,u32,u33,u34,u35,u36,u37,u38,u39,u40,u41,u42,u43,u44,u45,u46,u47,u48,u49,u50,u51,u52,u53,u54,u55,u56,u57,u58,u59,u60,u61,u62,u63,u64,u65,u66,u67,u68,u69,u70,u71,u72,u73,u74,u75,u76,u77,u78,u79,u80,u81,u82,u83,u84,u85,u86,u87,u88,u89,u90,u91,u92,u93,u94,u95,u96,u97,u98,u99,u100,u101,u102,u103,u104,u105,u106,u107,u108,u109,u110,u111,u112,u113,u114,u115,u116,u117,u118,u119,u120,u121,u122,u123,u124,u125,u126,u127,u128,u129,u130,u131,u132,u133,u134,u135,u136,u137,u138,u139,u140,u141,u142,u143,u144,u145,u146,u147,u148,u149,u150,u151,u152,u153,u154,u155,u156,u157,u158,u159,u160,u161,u162,undef],defers:=ds }/\k<=p.length/\Hid (Made w7 rw0 w7.heap.size ⟨m,vt,vM,ft,fM,mb⟩ (.slice A4 p.length c4) wr r (Zh p k) (Zy p k))/\Hid (MarksAt wr ds/\∀ n,Zbf ds n->w7.heap.size<=n/\¬ MQ ⟨m,vt,vM,ft,fM,mb⟩ r n)) (fun a' _=>p.length-(intOf (a'.tmps.getD 28 undef)).toNat) ?_ ?_
 ·refine⟨0,rw0,[],?_⟩
  repeat apply Exists.intro
  exact⟨rfl,Ln _,HM0,Zsf _,fun n h=>by obtain⟨d,hd,_⟩:=h;simp at hd⟩
 ·intro a' wr hinv;obtain⟨k,hinv⟩:=hinv;obtain⟨r,hinv⟩:=hinv;obtain⟨ds,hinv⟩:=hinv;obtain⟨u5,hinv⟩:=hinv;obtain⟨u7,hinv⟩:=hinv;obtain⟨u8,hinv⟩:=hinv;obtain⟨u9,hinv⟩:=hinv;obtain⟨u10,hinv⟩:=hinv;obtain⟨u29,hinv⟩:=hinv;obtain⟨u30,hinv⟩:=hinv;obtain⟨u31,hinv⟩:=hinv;obtain⟨u32,hinv⟩:=hinv;obtain⟨u33,hinv⟩:=hinv;obtain⟨u34,hinv⟩:=hinv;obtain⟨u35,hinv⟩:=hinv;obtain⟨u36,hinv⟩:=hinv;obtain⟨u37,hinv⟩:=hinv;obtain⟨u38,hinv⟩:=hinv;obtain⟨u39,hinv⟩:=hinv;obtain⟨u40,hinv⟩:=hinv;obtain⟨u41,hinv⟩:=hinv;obtain⟨u42,hinv⟩:=hinv;obtain⟨u43,hinv⟩:=hinv;obtain⟨u44,hinv⟩:=hinv;obtain⟨u45,hinv⟩:=hinv;obtain⟨u46,hinv⟩:=hinv;obtain⟨u47,hinv⟩:=hinv;obtain⟨u48,hinv⟩:=hinv;obtain⟨u49,hinv⟩:=hinv;obtain⟨u50,hinv⟩:=hinv;obtain⟨u51,hinv⟩:=hinv;obtain⟨u52,hinv⟩:=hinv;obtain⟨u53,hinv⟩:=hinv;obtain⟨u54,hinv⟩:=hinv;obtain⟨u55,hinv⟩:=hinv;obtain⟨u56,hinv⟩:=hinv;obtain⟨u57,hinv⟩:=hinv;obtain⟨u58,hinv⟩:=hinv;obtain⟨u59,hinv⟩:=hinv;obtain⟨u60,hinv⟩:=hinv;obtain⟨u61,hinv⟩:=hinv;obtain⟨u62,hinv⟩:=hinv;obtain⟨u63,hinv⟩:=hinv;obtain⟨u64,hinv⟩:=hinv;obtain⟨u65,hinv⟩:=hinv;obtain⟨u66,hinv⟩:=hinv;obtain⟨u67,hinv⟩:=hinv;obtain⟨u68,hinv⟩:=hinv;obtain⟨u69,hinv⟩:=hinv;obtain⟨u70,hinv⟩:=hinv;obtain⟨u71,hinv⟩:=hinv;obtain⟨u72,hinv⟩:=hinv;obtain⟨u73,hinv⟩:=hinv;obtain⟨u74,hinv⟩:=hinv;obtain⟨u75,hinv⟩:=hinv;obtain⟨u76,hinv⟩:=hinv;obtain⟨u77,hinv⟩:=hinv;obtain⟨u78,hinv⟩:=hinv;obtain⟨u79,hinv⟩:=hinv;obtain⟨u80,hinv⟩:=hinv;obtain⟨u81,hinv⟩:=hinv;obtain⟨u82,hinv⟩:=hinv;obtain⟨u83,hinv⟩:=hinv;obtain⟨u84,hinv⟩:=hinv;obtain⟨u85,hinv⟩:=hinv;obtain⟨u86,hinv⟩:=hinv;obtain⟨u87,hinv⟩:=hinv;obtain⟨u88,hinv⟩:=hinv;obtain⟨u89,hinv⟩:=hinv;obtain⟨u90,hinv⟩:=hinv;obtain⟨u91,hinv⟩:=hinv;obtain⟨u92,hinv⟩:=hinv;obtain⟨u93,hinv⟩:=hinv;obtain⟨u94,hinv⟩:=hinv;obtain⟨u95,hinv⟩:=hinv;obtain⟨u96,hinv⟩:=hinv;obtain⟨u97,hinv⟩:=hinv;obtain⟨u98,hinv⟩:=hinv;obtain⟨u99,hinv⟩:=hinv;obtain⟨u100,hinv⟩:=hinv;obtain⟨u101,hinv⟩:=hinv;obtain⟨u102,hinv⟩:=hinv;obtain⟨u103,hinv⟩:=hinv;obtain⟨u104,hinv⟩:=hinv;obtain⟨u105,hinv⟩:=hinv;obtain⟨u106,hinv⟩:=hinv;obtain⟨u107,hinv⟩:=hinv;obtain⟨u108,hinv⟩:=hinv;obtain⟨u109,hinv⟩:=hinv;obtain⟨u110,hinv⟩:=hinv;obtain⟨u111,hinv⟩:=hinv;obtain⟨u112,hinv⟩:=hinv;obtain⟨u113,hinv⟩:=hinv;obtain⟨u114,hinv⟩:=hinv;obtain⟨u115,hinv⟩:=hinv;obtain⟨u116,hinv⟩:=hinv;obtain⟨u117,hinv⟩:=hinv;obtain⟨u118,hinv⟩:=hinv;obtain⟨u119,hinv⟩:=hinv;obtain⟨u120,hinv⟩:=hinv;obtain⟨u121,hinv⟩:=hinv;obtain⟨u122,hinv⟩:=hinv;obtain⟨u123,hinv⟩:=hinv;obtain⟨u124,hinv⟩:=hinv;obtain⟨u125,hinv⟩:=hinv;obtain⟨u126,hinv⟩:=hinv;obtain⟨u127,hinv⟩:=hinv;obtain⟨u128,hinv⟩:=hinv;obtain⟨u129,hinv⟩:=hinv;obtain⟨u130,hinv⟩:=hinv;obtain⟨u131,hinv⟩:=hinv;obtain⟨u132,hinv⟩:=hinv;obtain⟨u133,hinv⟩:=hinv;obtain⟨u134,hinv⟩:=hinv;obtain⟨u135,hinv⟩:=hinv;obtain⟨u136,hinv⟩:=hinv;obtain⟨u137,hinv⟩:=hinv;obtain⟨u138,hinv⟩:=hinv;obtain⟨u139,hinv⟩:=hinv;obtain⟨u140,hinv⟩:=hinv;obtain⟨u141,hinv⟩:=hinv;obtain⟨u142,hinv⟩:=hinv;obtain⟨u143,hinv⟩:=hinv;obtain⟨u144,hinv⟩:=hinv;obtain⟨u145,hinv⟩:=hinv;obtain⟨u146,hinv⟩:=hinv;obtain⟨u147,hinv⟩:=hinv;obtain⟨u148,hinv⟩:=hinv;obtain⟨u149,hinv⟩:=hinv;obtain⟨u150,hinv⟩:=hinv;obtain⟨u151,hinv⟩:=hinv;obtain⟨u152,hinv⟩:=hinv;obtain⟨u153,hinv⟩:=hinv;obtain⟨u154,hinv⟩:=hinv;obtain⟨u155,hinv⟩:=hinv;obtain⟨u156,hinv⟩:=hinv;obtain⟨u157,hinv⟩:=hinv;obtain⟨u158,hinv⟩:=hinv;obtain⟨u159,hinv⟩:=hinv;obtain⟨u160,hinv⟩:=hinv;obtain⟨u161,hinv⟩:=hinv;obtain⟨u162,hinv⟩:=hinv;obtain⟨ha,hkl,hM,hD⟩:=hinv;subst ha
  try dsimp only
  have cv:wr.cell? ⟨mv,0,none⟩=some (.pointer (some ⟨m,0,none⟩)):=(Za (hM.out.at_ HV.out (by
   have:=HE.out
   simp only[MQ,Xn,Value.ownBlock]
   simp
   omega))).1 0
  obtain⟨cm,-⟩:=Za hM.out.mi.blk
  by_cases hl:k<p.length
  ·have hlow:=HB.out _ _ _ _ hM.out;have Ebs:=hid (hM.out.chg.size);obtain⟨A5,c5,e5,-,-,-,hA⟩:=(HP.out w4 _ (SupI.refl _ _)).open_;obtain⟨rfl,-,rfl⟩:A5=A4/\True/\c5=c4:=by simp only[Value.slice.injEq] at e5;exact⟨e5.1.symm,trivial,e5.2.2.symm⟩
   obtain⟨x,b,off,hx,rfl,hbB,hr⟩:=hA.at_ hl;obtain⟨A1,d1,A2,d2,hf,m1,m2,e0,e1,e2⟩:=Yh hr;obtain⟨b',off',e',-,hone4⟩:=hA.one hx;obtain⟨rfl,rfl⟩:b=b'/\off=off':=by simp at e';exact e'
   have Hone4:=hid hone4;clear e' hone4;have Hx:=hid hx;have Hf:=hid hf;have HMk:=hM;have hD0:=hD;have HC:=hid (And.intro e0 (And.intro e1 e2));have hbW:b<wr.heap.size:=by have:=hlow.size;omega
   clear hx hf hr hA e5;go_upto_region 7 with (fail)
   obtain⟨W8,hW8⟩:∃ W8:World,W8=wr.alloc (.cells #[.int .i64 k] 3):=⟨_,rfl⟩
   rw[<-hW8];have N8:Made wr r w7.heap.size ⟨m,vt,vM,ft,fM,mb⟩ (.slice (some ⟨b,off,none⟩) p.length c5) W8 r (Zh p k) (Zy p k):=by rw[hW8];exact (Made.start hM.out.mi).alloc _
   have M8:=hM.out.join N8;have HN8:=hid N8;have hF8:W8.heap[wr.heap.size]?=some (.cells #[.int .i64 k] 3 (0,0)):=by rw[hW8];exact La _ _
   have hs8:W8.heap.size=wr.heap.size+1:=by rw[hW8];simp
   obtain⟨fb,hfb⟩:∃ fb,fb=wr.heap.size:=⟨_,rfl⟩
   rw[<-hfb] at hF8 hs8 hbW;rw[<-hfb];have Hfb:=hid hfb;have hfb7:w7.heap.size<=fb:=by have:=Ebs.out;omega
   have hno:¬ MQ ⟨m,vt,vM,ft,fM,mb⟩ r fb:=fun e=>by have:=hM.out.mi.lt e;omega
   clear hfb;have hlow8:=HB.out _ _ _ _ M8;have hb8:w7.heap.size<=W8.heap.size:=M8.chg.size;have hT8:TabS W8.drew w7.heap.size ft fM r.vF (Zy p k):=M8.mi.funs.chg (Chg.grown (Q:=fun _=>False) (Zf (Lb W8 none)) (fun r e=>by cases e)) (fun e=>e) (fun e=>e) (fun _ _ e=>e);have hFl:=fun g e=>hM.out.mi.funs.own.lt g e
   have hq8:∀ n,n<w7.heap.size->n≠ft->n≠fM->¬ Qb ft fM r.vF n:=fun n h1 h2 h3 e=>by
    rcases e with e|e|e
    ·exact h2 e
    ·exact h3 e
    ·have:=hFl n e;omega
   have hqf:¬ Qb ft fM r.vF fb:=fun e=>hno (by
    rcases e with e|e|e
    ·simp[MQ,Xn,e]
    ·simp[MQ,Xn,e]
    ·simp[MQ,Xn,e])
   obtain⟨cm8,-⟩:=Za M8.mi.blk
   have cv8:W8.cell? ⟨mv,0,none⟩=some (.pointer (some ⟨m,0,none⟩)):=(Za (M8.at_ HV.out (by
    have:=HE.out
    simp only[MQ,Xn,Value.ownBlock]
    simp
    omega))).1 0
   have HS:=hid (show ∀ W':World,Chg (Qb ft fM r.vF) W8.drew W'->W'.cell? ⟨mv,0,none⟩=some (.pointer (some ⟨m,0,none⟩))/\W'.cell? ⟨m,0,none⟩=some (.slice (some ⟨b,off,none⟩) p.length c5)/\W'.cell? ⟨m,1,none⟩=some (.pointer (some ⟨vt,0,none⟩))/\W'.cell? ⟨m,2,none⟩=some (.pointer (some ⟨ft,0,none⟩))/\
                     W'.cell? ⟨fb,0,none⟩=some (.int .i64 k)/\W'.cell? ⟨b,off+k*3,none⟩=some (.string ⟨x.name.toArray⟩)/\W'.cell? ⟨b,off+k*3+1,none⟩=some (.slice A1 x.params.length d1) from fun W' hc=>by
                      have h1:=HE.out
                      have g:∀ n i,n<w7.heap.size->n≠ft->n≠fM->W'.cell? ⟨n,i,none⟩=W8.cell? ⟨n,i,none⟩:=fun n i a1 a2 a3=>Lj (hc.block n (by show n<W8.heap.size;omega) (hq8 n a1 a2 a3))
                      refine⟨(g mv 0 (by omega) (by omega) (by omega)).trans cv8,(g m 0 (by omega) (by omega) (by omega)).trans (cm8 0),(g m 1 (by omega) (by omega) (by omega)).trans (cm8 1),(g m 2 (by omega) (by omega) (by omega)).trans (cm8 2),?_,?_,?_⟩
                      ·exact (Lj (hc.block _ (by show fb<W8.heap.size;omega) hqf)).trans ((Za hF8).1 0)
                      ·exact (g b _ (by omega) (by omega) (by omega)).trans (cur hlow8 hbB e0)
                      ·exact (g b _ (by omega) (by omega) (by omega)).trans (cur hlow8 hbB e1))
   have hs0:=HS.out _ (.refl _ _);have hcall:=idS_any (Zy p k) w7.heap.size ft fM r.vF x.name W8.drew hT8 hb8 (by have:=Zbo p hkl;have:=HN.out.funcs;omega);have HM8:=hid M8;clear M8 N8 hT8 hFl hq8 hqf cm8 cv8 e0 e1 e2 hlow hlow8 cm cv hW8
   go_region_held3 (fun W'=>W'.cell? ⟨mv,0,none⟩=some (.pointer (some ⟨m,0,none⟩))/\W'.cell? ⟨m,0,none⟩=some (.slice (some ⟨b,off,none⟩) p.length c5)/\W'.cell? ⟨m,1,none⟩=some (.pointer (some ⟨vt,0,none⟩))/\W'.cell? ⟨m,2,none⟩=some (.pointer (some ⟨ft,0,none⟩))/\
                    W'.cell? ⟨fb,0,none⟩=some (.int .i64 k)/\W'.cell? ⟨b,off+k*3,none⟩=some (.string ⟨x.name.toArray⟩)/\W'.cell? ⟨b,off+k*3+1,none⟩=some (.slice A1 x.params.length d1)) (first|exact hs0|exact HS.out _ hC9)
    (first|(go_simp;go_at_call 63;refine hcall.mono ?_;rintro e w9 ⟨rfl,vF',hT9,hC9,hN9⟩))
   have C9:Chg (Qb ft fM r.vF) W8 w9:=(Chg.grown (Q:=Qb ft fM r.vF) (Zf (Lb W8 none)) (fun r e=>by cases e)).trans hC9 (fun _ _ e=>e);have M9:=HM8.out.fun_ hT9 C9 hN9;rw[<-Uz Hx.out] at M9;obtain⟨r9,hr9⟩:∃ r9:Rw,r9={ r with vF:=vF' }:=⟨_,rfl⟩
   rw[<-hr9] at M9;have N9:=(Made.start HM8.out.mi).fun_ hT9 C9 hN9;rw[<-hr9] at N9;have hq9:¬ MQ ⟨m,vt,vM,ft,fM,mb⟩ r9 fb/\¬ MQ ⟨m,vt,vM,ft,fM,mb⟩ r9 mv:=by
    have h1:=HE.out;refine⟨N9.old (by omega) hno,M9.old (by omega) ?_⟩;simp only[MQ,Xn,Value.ownBlock];simp;omega
   have hF9:w9.heap[fb]?=some (.cells #[.int .i64 k] 3 (0,0)):=N9.at_ hF8 hno
   have hV9:w9.heap[mv]?=some (.cells #[.pointer (some ⟨m,0,none⟩)] 51 (0,0)):=M9.at_ HV.out (by
    have:=HE.out
    simp only[MQ,Xn,Value.ownBlock]
    simp
    omega)
   have HS9:=hid (show ∀ (W:World) (r':Rw) (s':SSt) (ns':List Str),Made w9 r9 w7.heap.size ⟨m,vt,vM,ft,fM,mb⟩ (.slice (some ⟨b,off,none⟩) p.length c5) W r' s' ns'->
                      Below w4.heap.size w4 W/\W.cell? ⟨mv,0,none⟩=some (.pointer (some ⟨m,0,none⟩))/\W.cell? ⟨fb,0,none⟩=some (.int .i64 k)/\
                      (W.cell? ⟨m,0,none⟩=some (.slice (some ⟨b,off,none⟩) p.length c5)/\W.cell? ⟨m,1,none⟩=some (.pointer (some ⟨vt,0,none⟩))/\W.cell? ⟨m,2,none⟩=some (.pointer (some ⟨ft,0,none⟩))/\W.cell? ⟨m,3,none⟩=some r'.vS/\W.cell? ⟨m,4,none⟩=some (.map (some mb))/\W.cell? ⟨m,5,none⟩=some r'.vO/\W.cell? ⟨m,6,none⟩=some r'.vP)/\
                      W.cell? ⟨b,off+k*3,none⟩=some (.string ⟨x.name.toArray⟩)/\W.cell? ⟨b,off+k*3+1,none⟩=some (.slice A1 x.params.length d1)/\W.cell? ⟨b,off+k*3+2,none⟩=some (.slice A2 x.bk9.length d2)/\w7.heap.size<=W.heap.size from fun W r' s' ns' M'=>by
                       have hb:=HB.out _ _ _ _ (M9.join M')
                       obtain⟨q,-⟩:=Za M'.mi.blk
                       exact⟨hb,(Za (M'.at_ hV9 hq9.2)).1 0,(Za (M'.at_ hF9 hq9.1)).1 0,⟨q 0,q 1,q 2,q 3,q 4,q 5,q 6⟩,cur hb hbB HC.out.1,cur hb hbB HC.out.2.1,cur hb hbB HC.out.2.2,(M9.join M').chg.size⟩)
   have HM9:=hid M9
   have HN9:=hid (show Made wr r w7.heap.size ⟨m,vt,vM,ft,fM,mb⟩ (.slice (some ⟨b,off,none⟩) p.length c5) w9 r9 (Zh p k) (Zy p (k+1)) from by
    have:=HN8.out.fun_ hT9 C9 hN9
    rw[<-Uz Hx.out,<-hr9] at this
    exact this)
   have HL0:=hid (show wr.heap.size=fb from Hfb.out.symm);obtain⟨hlow9,cv9,cf9,⟨cm0,cm1,cm2,-,-,-,-⟩,ca9,cb9,cc9,hs9⟩:=HS9.out _ _ _ _ (Made.start M9.mi);clear N9 C9 hT9 hC9 hN9 M9 hlow9 hs0 HS;go_wp2_with fail;go_quiet (fail);go_wp2_with fail;clear cv9 cf9 cm0 cm1 cm2 ca9 cb9 cc9 hs9;go_loopw [55] (fun s55 w10=>∃ j:Nat,j<=x.params.length/\s55=.int .i64 j/\Hid (∃ r',Made w9 r9 w7.heap.size ⟨m,vt,vM,ft,fM,mb⟩ (.slice (some ⟨b,off,none⟩) p.length c5) w10 r' ((Zh p k).par k (x.params.take j)) (Zy p (k+1)))) (fun s55 _=>x.params.length-(intOf s55).toNat)
   case atStart=>exact⟨0,Ln _,rfl,r9,(Made.start HM9.out.mi).keep (Q:=fun _=>False) (Chg.grown (Zg (Lb w9 none) _) (fun r e=>by cases e)) (fun _ _ e=>e) (fun _ _ e=>e)⟩
   case round=>
    obtain⟨j,hjl,rfl,hJ⟩:=hrel;obtain⟨r10,M10⟩:=hJ.out;obtain⟨hlowr,cv10,cf10,⟨cm0,cm1,cm2,-,-,-,-⟩,-,-,-,hs10⟩:=HS9.out _ _ _ _ M10
    by_cases hlj:j<x.params.length
    ·obtain⟨s,b1,off1,hs,rfl,hb1,hstr,hsl⟩:=Hf.out.params.at1 hlj;have hstr10:=cur hlowr hb1 hstr;have hT10:TabL wr.drew w7.heap.size vt vM r10.vV ((Zh p k).par k (x.params.take j)).vars:=M10.mi.vars.chg (Chg.grown (Q:=fun _=>False) (Zf (Lb wr none)) (fun r e=>by cases e)) (fun e=>e) (fun e=>e) (fun _ _ e=>e);have hcall:=Zqd ((Zh p k).par k (x.params.take j)).vars w7.heap.size vt vM r10.vV (k,s) wr.drew hT10 hs10 (by have:=(HN.out.lens (show k+1<=p.length by omega) (Zio Hx.out j)).1;omega);have hqT:∀ n,n<w7.heap.size->n≠vt->n≠vM->¬ Qb vt vM r10.vV n:=fun n h1 h2 h3 e=>by
      rcases e with e|e|e
      ·exact h2 e
      ·exact h3 e
      ·have:=(M10.mi.vars.own.lt n e).1;omega
     have hfr:¬ Qb vt vM r10.vV fb:=fun e=>M10.old (Ze hF9) hq9.1 (by
      rcases e with e|e|e
      ·simp[MQ,Xn,e]
      ·simp[MQ,Xn,e]
      ·simp[MQ,Xn,e])
     have HS10:=hid (show ∀ W':World,Chg (Qb vt vM r10.vV) wr.drew W'->W'.cell? ⟨mv,0,none⟩=some (.pointer (some ⟨m,0,none⟩))/\W'.cell? ⟨m,1,none⟩=some (.pointer (some ⟨vt,0,none⟩))/\W'.cell? ⟨fb,0,none⟩=some (.int .i64 k) from fun W' hc=>by
      have h1:=HE.out
      have g:∀ n i,n<w7.heap.size->n≠vt->n≠vM->W'.cell? ⟨n,i,none⟩=wr.cell? ⟨n,i,none⟩:=fun n i a1 a2 a3=>Lj (hc.block n (by show n<wr.heap.size;omega) (hqT n a1 a2 a3))
      refine⟨(g mv 0 (by omega) (by omega) (by omega)).trans cv10,(g m 1 (by omega) (by omega) (by omega)).trans cm1,?_⟩
      exact (Lj (hc.block _ (by have:=M10.chg.size;have:=Ze hF9;show fb<wr.heap.size;omega) hfr)).trans cf10)
     have hs0:=HS10.out _ (.refl _ _);have HM10:=hid M10;have Hs:=hid hs;clear M10 hT10 hqT hfr hlowr cm0 cm1 cm2 cv10 cf10 hstr hs;go_upto_region 11 with (fail)
     go_region_held3 (fun W'=>W'.cell? ⟨mv,0,none⟩=some (.pointer (some ⟨m,0,none⟩))/\W'.cell? ⟨m,1,none⟩=some (.pointer (some ⟨vt,0,none⟩))/\W'.cell? ⟨fb,0,none⟩=some (.int .i64 k)) (first|exact hs0|exact HS10.out _ hC11)
      (first|(go_simp;go_at_call 64;refine hcall.mono ?_;rintro e w11 ⟨rfl,vV',hT11,hC11,hN11⟩))
     go_wp2_with fail;go_roundw
     case rel=>exact⟨j+1,by omega,by go_num,_,by
      have:=HM10.out.var hT11 ((Chg.grown (Q:=Qb vt vM r10.vV) (Zf (Lb wr none)) (fun r e=>by cases e)).trans hC11 (fun _ _ e=>e)) hN11
      rw[<-SSt.par_more _ _ Hs.out] at this
      exact this⟩
     case measure=>simp[intOf];omega
    ·obtain rfl:j=x.params.length:=by omega
     rw[List.take_length] at M10
     have HSg:=hid (show ∀ W':World,wr.grownBy W' none->W'.cell? ⟨mv,0,none⟩=some (.pointer (some ⟨m,0,none⟩))/\W'.cell? ⟨m,0,none⟩=some (.slice (some ⟨b,off,none⟩) p.length c5)/\W'.cell? ⟨fb,0,none⟩=some (.int .i64 k) from fun W' hg=>by
      have h1:=HE.out
      have h2:=M10.chg.size
      have h3:=Ze hF9
      exact⟨(Lj (hg.block mv (by omega) (by simp))).trans cv10,(Lj (hg.block m (by omega) (by simp))).trans cm0,(Lj (hg.block fb (by omega) (by simp))).trans cf10⟩)
     have hs0:=HSg.out wr.drew (Zf (Lb _ _));have HM10:=hid M10;have hone:=Yip b off p.length c5 k hl l4;have hwrap:IntKind.i64.wrap ((k:Int)+1)=(k:Int)+1:=by rw[IntKind.wrap_i64];omega
     clear M10 hlowr cm0 cm1 cm2 cv10 cf10;go_upto_region 13 with (fail)
     go_region_held3 (fun W'=>W'.cell? ⟨mv,0,none⟩=some (.pointer (some ⟨m,0,none⟩))/\W'.cell? ⟨m,0,none⟩=some (.slice (some ⟨b,off,none⟩) p.length c5)/\W'.cell? ⟨fb,0,none⟩=some (.int .i64 k))
      (first|exact hs0|exact HSg.out _ (Zd (Zf (Lb _ _)) _)|exact HSg.out _ (Zi (Zd (Zf (Lb _ _)) _) (by simp[World.drew]) _)) (fail)
     have hsc:=Zth (some ⟨b,off+k*3,none⟩) 1 (c5-k);go_wp2_with (go_at_call 65;refine (hsc _).mono ?_;rintro e w' ⟨rfl,rfl⟩);obtain⟨wS,hwS⟩:∃ wS:World,wS=((wr.alloc (.cells #[.slice (some ⟨b,off+k*3,none⟩) 1 (c5-k)] 47)).alloc (.cells #[.slice (some ⟨b,off+k*3,none⟩) 1 (c5-k)] 47)).drew:=⟨_,rfl⟩
     have MS:Made w9 r9 w7.heap.size ⟨m,vt,vM,ft,fM,mb⟩ (.slice (some ⟨b,off,none⟩) p.length c5) wS r10 ((Zh p k).par k x.params) (Zy p (k+1)):=by
      rw[hwS];exact ((HM10.out.alloc _).alloc _).keep (Q:=fun _=>False) (Chg.grown (Zf (Lb _ none)) (fun r e=>by cases e)) (fun _ _ e=>e) (fun _ _ e=>e)
     obtain⟨wS0,hw0⟩:∃ n,n=wr.heap.size:=⟨_,rfl⟩
     have hsS:wS.heap.size=wS0+2:=by rw[hwS,hw0];simp[World.drew]
     have hcb:wS.heap[wS0+1]?=some (.cells #[.slice (some ⟨b,off+k*3,none⟩) 1 (c5-k)] 47 (0,0)):=by
      have:=La (wr.alloc (.cells #[.slice (some ⟨b,off+k*3,none⟩) 1 (c5-k)] 47)) (.cells #[.slice (some ⟨b,off+k*3,none⟩) 1 (c5-k)] 47);rw[World.size_alloc,<-hw0] at this;rw[hwS];exact this
     rw[<-hwS,<-hw0];obtain⟨hlowS,-,-,-,-,-,-,hsz⟩:=HS9.out _ _ _ _ MS;have HMS:=hid MS;have hw4:=HE.out;have hwr:=HM10.out.mi;have hcb9:¬ MQ ⟨m,vt,vM,ft,fM,mb⟩ r10 (wS0+1):=fun e=>by have:=hwr.lt e;omega
     have hIo:OwnFrom wS.heap.size (fun (pre:List (Pt4 w4 w4.heap.size [x])) W=>∃ r',Made wS r10 w7.heap.size ⟨m,vt,vM,ft,fM,mb⟩ (.slice (some ⟨b,off,none⟩) p.length c5) W r' (((Zh p k).par k x.params).code k (pre.map pj)) (Zy p (k+1))):=fun s W W' row hs hg hr=>by
      obtain⟨r',h1⟩:=hs;exact⟨r',h1.own hsz (Lf _) hg (fun n e=>⟨by have:=(hr n e).1;omega,(hr n e).1,(hr n e).2⟩)⟩
     have HIo:=hid hIo;clear hwS hw0 MS hwr HSg hs0 hone hsc hwrap
     refine (wpIn_wide (n:=8)).1 (wpIn_rangeFunc_ownH rfl (by omega) (gf:=98) (lb:= #[.pointer (some ⟨wS0+1,0,none⟩)]) rfl trivial (enters_of Tryz.func98 (by kernel_rfl) rfl)
                                  (Zmx 7 (by omega) (wS0+1) w4.heap.size [x] (.slice (some ⟨b,off+k*3,none⟩) 1 (c5-k)) w4 Hone4.out wS hlowS (by omega) (by omega) ((Za hcb).1 0)) Yio (kpB_b (by omega) (by omega)) (Below.refl _ _) (fun _=>rfl)
                                  (fun (pre:List (Pt4 w4 w4.heap.size [x])) W=>∃ r',Made wS r10 w7.heap.size ⟨m,vt,vM,ft,fM,mb⟩ (.slice (some ⟨b,off,none⟩) p.length c5) W r' (((Zh p k).par k x.params).code k (pre.map pj)) (Zy p (k+1)))
                                  (fun _ _ _=>False) hIo (fun c=>fun _ _ _ _ h _ _=>h) ⟨r10,Made.start HMS.out.mi⟩
                                  (fun y a' W=>∃ b9 b10 r' s',wS.heap.size<=b9/\wS.heap.size<=b10/\b9≠b10/\W.heap[b9]?=some (.cells #[.int .i64 y.1.1.1,.int .i64 y.1.1.2.1,.int .i64 y.1.1.2.2] 41 (0,0))/\
                                   W.heap[b10]?=some (.cells #[.int .u8 y.1.2.1.op,.string ⟨y.1.2.1.dst.toArray⟩,.string ⟨y.1.2.1.a.toArray⟩,.string ⟨y.1.2.1.b.toArray⟩,.int .i64 y.1.2.1.n,.string ⟨y.1.2.1.fn.toArray⟩,y.1.2.2.1,y.1.2.2.2] 25 (0,0))/\
                                   Made wS r10 w7.heap.size ⟨m,vt,vM,ft,fM,mb⟩ (.slice (some ⟨b,off,none⟩) p.length c5) W r' s' (Zy p (k+1))/\¬ MQ ⟨m,vt,vM,ft,fM,mb⟩ r' b9/\¬ MQ ⟨m,vt,vM,ft,fM,mb⟩ r' b10/\
                                   a'={ tmps:= #[.agg #[.slice A p.length c],.pointer (some ⟨w.heap.size,0,none⟩),.pointer none,.int .i64 0,.pointer (some ⟨mv,0,none⟩),.pointer (some ⟨fb,0,none⟩),undef,u7,.pointer (some ⟨wS0,0,none⟩),.pointer (some ⟨b9,0,none⟩),.pointer (some ⟨b10,0,none⟩),.agg #[.slice A p.length c],.agg #[.int .u8 0,.int .i64 0,.int .i64 0,.int .i64 0],.agg #[.int .u8 0,.int .i64 0,.int .i64 0,.int .i64 0],.bool false,.agg #[.slice A p.length c],.agg #[.slice (some ⟨b,off,none⟩) p.length c5],.pointer (some ⟨vt,0,none⟩),.pointer (some ⟨ft,0,none⟩),.map (some mb),.agg #[.slice (some ⟨b,off,none⟩) p.length c5,.pointer (some ⟨vt,0,none⟩),.pointer (some ⟨ft,0,none⟩),.slice none 0 0,.map (some mb),.slice none 0 0,.slice none 0 0],.pointer (some ⟨m,0,none⟩),.pointer (some ⟨m,0,none⟩),.pointer (some ⟨m,0,none⟩),.pointer (some ⟨m,0,none⟩),.pointer (some ⟨m,0,none⟩),.slice (some ⟨b,off,none⟩) p.length c5,.int .i64 p.length,.int .i64 k,.bool true,.int .i64 k,.pointer (some ⟨m,0,none⟩),.pointer (some ⟨m,0,none⟩),.pointer (some ⟨m,2,none⟩),.pointer (some ⟨ft,0,none⟩),.pointer (some ⟨m,0,none⟩),.pointer (some ⟨m,0,none⟩),.pointer (some ⟨m,0,none⟩),.pointer (some ⟨m,0,none⟩),.slice (some ⟨b,off,none⟩) p.length c5,.int .i64 k,.pointer (some ⟨b,off+k*3,none⟩),.pointer (some ⟨b,off+k*3,none⟩),.string ⟨x.name.toArray⟩,.int .i64 ((Zy p k).idxOf x.name:Nat),.pointer (some ⟨m,0,none⟩),.pointer (some ⟨m,0,none⟩),.pointer (some ⟨m,0,none⟩),.pointer (some ⟨m,0,none⟩),.slice (some ⟨b,off,none⟩) p.length c5,.int .i64 k,.pointer (some ⟨b,off+k*3,none⟩),.pointer (some ⟨b,off+k*3+1,none⟩),.slice A1 x.params.length d1,.int .i64 x.params.length,.int .i64 x.params.length,.bool false,u57,u58,u59,u60,u61,u62,u63,u64,u65,u66,u67,.pointer (some ⟨m,0,none⟩),.pointer (some ⟨m,0,none⟩),.pointer (some ⟨m,0,none⟩),.pointer (some ⟨m,0,none⟩),.slice (some ⟨b,off,none⟩) p.length c5,.int .i64 k,.int .i64 k,.int .i64 ((k:Int)+1),.slice (some ⟨b,off+k*3,none⟩) 1 (c5-k),.agg #[.slice (some ⟨b,off+k*3,none⟩) 1 (c5-k)],.agg #[.slice (some ⟨b,off+k*3,none⟩) 1 (c5-k)],.func (.func 98) #[] #[.pointer (some ⟨wS0+1,0,none⟩)],ptA y.1.1,Uh y.1.2.1 y.1.2.2.1 y.1.2.2.2,u82,u83,u84,u85,u86,u87,u88,u89,u90,u91,u92,u93,u94,u95,u96,u97,u98,u99,u100,u101,u102,u103,u104,u105,u106,u107,u108,u109,u110,u111,u112,u113,u114,u115,u116,u117,u118,u119,u120,u121,u122,u123,u124,u125,u126,u127,u128,u129,u130,u131,u132,u133,u134,u135,u136,u137,u138,u139,u140,u141,u142,u143,u144,u145,u146,u147,u148,u149,u150,u151,u152,u153,u154,u155,u156,u157,u158,u159,u160,u161,u162,undef],defers:=[] })
                                  ?hAx ?assign ?body ?done ?stop)
     case hAx=>
      rintro y a' _ X Y row hs hg hr;obtain⟨b9,b10,r',s',h1,h2,h3,h4,h5,h6,h7,h8,h9⟩:=hs
      have hk:∀ (k:Nat) (cs:Array Value) (t:TypeId),X.heap[k]?=some (Obj.cells cs t (0,0))->Y.heap[k]?=some (Obj.cells cs t (0,0)):=fun k cs t hk=>(hg.block k (Ze hk) (fun e=>by
       obtain⟨_,o,ho,hc⟩:=hr k e.symm
       rw[hk] at ho
       cases ho
       cases hc)).trans hk
      exact⟨b9,b10,r',s',h1,h2,h3,hk _ _ _ h4,hk _ _ _ h5,h6.own hsz (Lf _) hg (fun n e=>⟨by have:=(hr n e).1;omega,(hr n e).1,(hr n e).2⟩),h7,h8,h9⟩
     case assign=>
      rintro l pre ⟨⟨pt,z,va,vl⟩,hi,hm⟩ W K ⟨r1,M1⟩ hK;clear hw4;have hi':InsAt w4 w4.heap.size z va vl:=hi;obtain⟨A4,d4,q4,-,-,-,-⟩:=hi'.args.open_;obtain⟨A5,d5,q5,-,-,-,-⟩:=hi'.lb9.open_;subst q4;subst q5;simp only[Zlo,ptA,Uh];gi_wp2;have hw5:=HE.out;have hWs:=M1.chg.size;have h6:=La W (.cells #[.int .i64 pt.1,.int .i64 pt.2.1,.int .i64 pt.2.2] 41);have h7:=La (W.alloc (.cells #[.int .i64 pt.1,.int .i64 pt.2.1,.int .i64 pt.2.2] 41)) (.cells #[.int .u8 z.op,.string ⟨z.dst.toArray⟩,.string ⟨z.a.toArray⟩,.string ⟨z.b.toArray⟩,.int .i64 z.n,.string ⟨z.fn.toArray⟩,.slice A4 z.args.length d4,.slice A5 z.lb9.length d5] 25);rw[World.size_alloc] at h7;have hx9:¬ MQ ⟨m,vt,vM,ft,fM,mb⟩ r1 W.heap.size:=fun e=>by have:=M1.mi.lt e;omega
      have hx10:¬ MQ ⟨m,vt,vM,ft,fM,mb⟩ r1 (W.heap.size+1):=fun e=>by have:=M1.mi.lt e;omega
      exact hK _ _ (((KeepsOthers.alloc _ _).trans (KeepsOthers.alloc _ _)).from _) ⟨((Below.refl _ W).alloc (by omega) _).alloc (by simp;omega) _,(Below.heap_alloc _ _ _ (by simp;omega)).trans (Below.heap_alloc _ _ _ (by omega))⟩
       ⟨r1,(M1.alloc _).alloc _⟩ ⟨W.heap.size,W.heap.size+1,r1,_,hWs,by omega,by omega,Zc h6 _,h7,(M1.alloc _).alloc _,hx9,hx10,rfl⟩
     case body=>
      rintro l pre ⟨⟨pt,z,va,vl⟩,hi,hmp⟩ a' W hlo hlr ⟨r1,M1⟩ ⟨b9,b10,r',s',h1,h2,h3,h4,h5,h6,h7,h8,ha'⟩ hpl;clear hw4;subst ha';obtain rfl:r1=r':=h6.mi.rows M1.mi;have hi':InsAt w4 w4.heap.size z va vl:=hi;obtain⟨A4,d4,q4,-,-,-,-⟩:=hi'.args.open_;obtain⟨A5,d5,q5,-,-,-,-⟩:=hi'.lb9.open_;subst q4;subst q5;clear h6 hi';dsimp only[ptA,Uh] at h4 h5 ⊢;have Hz:=hid (show Xe z=true->1<=z.n/\z.n<=64 from fun hs=>HN.out.site (Kb Hx.out hmp) hs);obtain⟨T,hT⟩:∃ T,T=((Zh p k).par k x.params).code k (pre.map pj):=⟨_,rfl⟩
      have hlen:=HN.out.lensR Hx.out (l:=pre.map pj) (fun q hq=>by obtain⟨y,_,rfl⟩:=List.mem_map.1 hq;exact y.2.2) (by simp;omega) hT;have Hlen:=hid hlen;rw[<-hT] at M1;have hIn:∀ q:Pt4 w4 w4.heap.size [x],pj q=(pt,z)->((Zh p k).par k x.params).code k ((pre++[q]).map pj)=T.ins k (pt,z):=fun q hq=>by rw[List.map_append,List.map_cons,List.map_nil,SSt.code_more,<-hT,hq]
      have HIn:=hid hIn;clear hIn hlen hT;obtain⟨hlowW,cvW,cfW,-,-,-,-,hszW⟩:=HS9.out _ _ _ _ (HMS.out.join M1);obtain⟨W1,hW1⟩:∃ W1,W1=W.setCell ⟨b9,0,none⟩ (.int .i64 k):=⟨_,rfl⟩
      have M2:Made wS r10 w7.heap.size ⟨m,vt,vM,ft,fM,mb⟩ (.slice (some ⟨b,off,none⟩) p.length c5) W1 r1 T (Zy p (k+1)):=by rw[hW1];exact M1.keep (Q:=fun n=>n=b9) (Chg.set (Q:=fun n=>n=b9) W (p:=⟨b9,0,none⟩) rfl _) (fun n hn e=>h7 (e▸hn)) (fun n hn e=>by omega)
      have hb9:W1.heap[b9]?=some (.cells #[.int .i64 k,.int .i64 pt.2.1,.int .i64 pt.2.2] 41 (0,0)):=by rw[hW1];simpa using Zs h4 0 (.int .i64 k)
      have hb10:=(show W1.heap[b10]?=W.heap[b10]? by rw[hW1];exact (Chg.set (Q:=fun n=>n=b9) W (p:=⟨b9,0,none⟩) rfl _).block b10 (Ze h5) (fun e=>h3 e.symm)).trans h5;have hk1:KeepsFrom wS.heap.size W W1:=by rw[hW1];exact (KeepsOthers.setCell W ⟨b9,0,none⟩ _).from _
      have hk2:KpB w4.heap.size (wS0+1) W W1:=by
       have hc:=Chg.set (Q:=fun n=>n=b9) W (p:=⟨b9,0,none⟩) rfl (.int .i64 k);have h0:=HE.out;have h9:=Ze h4;have h10:=M1.chg.size;have h11:=HMS.out.chg.size;have h12:=HM9.out.chg.size;rw[hW1];exact⟨⟨hc.os,hc.tape,hc.output,hc.size,fun n hn=>hc.block n (by omega) (by omega)⟩,hc.block _ (by omega) (by omega)⟩
      have HK:=hid (And.intro hk1 hk2);obtain⟨-,cvW1,cfW1,-,-,-,-,hszW1⟩:=HS9.out _ _ _ _ (HMS.out.join M2);have hmvq:¬ MQ ⟨m,vt,vM,ft,fM,mb⟩ r1 mv:=(HMS.out.join M2).old (Ze hV9) hq9.2;have hfbq:¬ MQ ⟨m,vt,vM,ft,fM,mb⟩ r1 fb:=(HMS.out.join M2).old (Ze hF9) hq9.1
      have HR:=hid (show ∀ W':World,Chg (MQ ⟨m,vt,vM,ft,fM,mb⟩ r1) W1 W'->W'.cell? ⟨mv,0,none⟩=some (.pointer (some ⟨m,0,none⟩))/\W'.cell? ⟨fb,0,none⟩=some (.int .i64 k)/\(W'.cell? ⟨b9,0,none⟩=some (.int .i64 k)/\W'.cell? ⟨b9,1,none⟩=some (.int .i64 pt.2.1)/\W'.cell? ⟨b9,2,none⟩=some (.int .i64 pt.2.2))/\(W'.cell? ⟨b10,0,none⟩=some (.int .u8 z.op)/\W'.cell? ⟨b10,1,none⟩=some (.string ⟨z.dst.toArray⟩)/\W'.cell? ⟨b10,4,none⟩=some (.int .i64 z.n)) from fun W' hc=>by
       have lt1:=(HMS.out.join M2).chg.size
       obtain⟨c9,-⟩:=Za hb9
       obtain⟨c10,-⟩:=Za hb10
       have g9:∀ i,W'.cell? ⟨b9,i,none⟩=W1.cell? ⟨b9,i,none⟩:=fun i=>Lj (hc.block b9 (Ze hb9) h7)
       have g10:∀ i,W'.cell? ⟨b10,i,none⟩=W1.cell? ⟨b10,i,none⟩:=fun i=>Lj (hc.block b10 (Ze hb10) h8)
       exact⟨(Lj (hc.block mv (by have:=Ze hV9;omega) hmvq)).trans cvW1,(Lj (hc.block fb (by have:=Ze hF9;omega) hfbq)).trans cfW1,⟨(g9 0).trans (c9 0),(g9 1).trans (c9 1),(g9 2).trans (c9 2)⟩,(g10 0).trans (c10 0),(g10 1).trans (c10 1),(g10 4).trans (c10 4)⟩)
      have HN1:=hid (Made.start M2.mi);have hcbq:¬ MQ ⟨m,vt,vM,ft,fM,mb⟩ r1 (wS0+1):=M2.old (by omega) hcb9;have hloq:∀ n,n<w4.heap.size->¬ MQ ⟨m,vt,vM,ft,fM,mb⟩ r1 n:=fun n hn e=>by
       have h0:=HE.out
       rcases M2.mi.ge e with e|e
       ·simp only at e;omega
       ·omega
      have HM2:=hid M2
      have HFin:=hid (show ∀ W' r2,Made W1 r1 w7.heap.size ⟨m,vt,vM,ft,fM,mb⟩ (.slice (some ⟨b,off,none⟩) p.length c5) W' r2 (T.ins k (pt,z)) (Zy p (k+1))->KeepsFrom wS.heap.size W W'/\KpB w4.heap.size (wS0+1) W W'/\∃ r',Made wS r10 w7.heap.size ⟨m,vt,vM,ft,fM,mb⟩ (.slice (some ⟨b,off,none⟩) p.length c5) W' r' (T.ins k (pt,z)) (Zy p (k+1)) from fun W' r2 h=>by
       have h0:=HE.out
       have h11:=HM2.out.chg.size
       obtain⟨e1,e2⟩:=h.round (by omega) (show w7.heap.size<=wS.heap.size by omega) HM2.out.mi hloq (by omega) hcbq (by omega)
       exact⟨HK.out.1.trans e1,Yio HK.out.2 e2,r2,HM2.out.join h⟩)
      obtain⟨c9,f9⟩:=Za h4;have c90:=c9 0;have f90:=f9 0;clear c9 f9;refine wpIn_mono (Zvj (by kernel_rfl) l _ W W1 r1 T pt z hW1 c90 f90 cfW HN1 hszW1 Hlen Hz HR (fun W'=>KeepsFrom wS.heap.size W W'/\KpB w4.heap.size (wS0+1) W W'/\∃ r',Made wS r10 w7.heap.size ⟨m,vt,vM,ft,fM,mb⟩ (.slice (some ⟨b,off,none⟩) p.length c5) W' r' (T.ins k (pt,z)) (Zy p (k+1))) HFin _ _ _ _ _ _ _ _ _ _ _ _ _ _ _ _ _ _ _ _ _ _ _ _ _ _ _ _ _ _ _ _ _ _ _ _ _ _ _ _ _ _ _ _ _ _ _ _ _ _ _ _ _ _ _ _ _ _ _ _ _ _ _ _ _ _ _ _ _ _ _ _ _ _ _ _ _ _ _ _ _ _ _ _ _ _ _ _ _ _ _ _ _ _ _ _ _ _ _ _ _ _ _ _ _ _ _ _ _ _ _ _ _ _ _ _ _ _ _ _ _ _ _ _ _ _ _ _ _ _ _ _ _ _ _ _ _ _ _ _ _ _ _ _ _ _ _ _ _ _ _ _ _ _ _ _ _ _ _ _) ?_;intro e a3 W3 hq
      cases e with
      |normal=>
       obtain⟨f1,f2,r',f3⟩:=hq;exact⟨f1,f2,r',by rw[HIn.out _ rfl];exact f3⟩
      |_=>exact hq.elim
     case stop=>
      rintro D c pre W hD hS hX hK;exact hX.elim
     case done=>
      rintro D xs W hD hS ⟨rE,ME⟩ hK;rw[hS] at ME;have hst:((Zh p k).par k x.params).code k (pts [x])=Zh p (k+1):=(Xf Hx.out).symm;rw[hst] at ME;have hfin:=HM9.out.join (HMS.out.join ME);have hrnd:=HN9.out.join (HMS.out.join ME);have hmk:=hD0.out.1.chg hrnd.chg (fun n hn=>(hD0.out.2 n hn).2);have hDlt:∀ n,Zbf ds n->n≠D:=fun n hn e=>by
       have h1:=Ze (hD0.out.1.mark hn);have h2:=HL0.out;have h3:=HMS.out.chg.size;have h4:=Ze hF9;omega
      have hmk2:=hmk.cons (d:={ target:=.collected D,args:= #[] }) rfl hK hDlt;have Hfin:=hid hfin
      have Hmk2:=hid (show MarksAt W ({ target:=.collected D,args:= #[] }::ds)/\∀ n,Zbf ({ target:=.collected D,args:= #[] }::ds) n->w7.heap.size<=n/\¬ MQ ⟨m,vt,vM,ft,fM,mb⟩ rE n from ⟨hmk2,fun n hn=>by
       refine⟨?_,fun e=>?_⟩
       ·rcases Zoq rfl hn with rfl|hn
        ·omega
        ·exact (hD0.out.2 n hn).1
       ·obtain⟨o,ho,hd,_⟩:=ME.mi.kind e
        rw[hmk2.mark hn] at ho
        injection ho with ho
        exact hd _ ho.symm⟩)
      clear hfin hrnd hmk hDlt hmk2 ME hst hIo hK;go_wp2_with fail;refine⟨⟨k+1,rE,{ target:=.collected D,args:= #[] }::ds,?_⟩,?_⟩
      ·repeat apply Exists.intro
       exact⟨rfl,by omega,Hfin,Hmk2⟩
      ·simp[intOf];omega
  ·go_wp2;refine Zbs ds wr hD.out.1 (fun w' hc=>?_);obtain rfl:k=p.length:=by omega
   have hMd:=hM.out.keep hc (fun n hq hm=>(hD.out.2 n hm).2 hq) (fun n hn hm=>by have:=(hD.out.2 n hm).1;omega);have hq0:∀ n,n<w4.heap.size->¬ MQ ⟨m,vt,vM,ft,fM,mb⟩ rw0 n:=fun n hn=>by
    have:=HE.out;simp only[MQ,Xn,Value.ownBlock];simp;omega
   have hcg:Chg (MQ ⟨m,vt,vM,ft,fM,mb⟩ rw0) w4 w':=(Chg.grown (Q:=MQ ⟨m,vt,vM,ft,fM,mb⟩ rw0) HG.out (fun r e=>by cases e)).trans hMd.chg (fun _ _ e=>e);have hgw:w.grownBy w4 none:=Zb Hg.out (Zb hg3 hg4);refine⟨.tuple #[.pointer (some ⟨m,0,none⟩),.int .i64 0],by simp[results,Tryz.f16,go_sem],m,rfl,⟨HN.out,w7.heap.size,⟨m,vt,vM,ft,fM,mb⟩,r,A4,c4,rfl,hMd.mi,hMd.chg.size,?_,?_⟩,Chg.after hgw hcg (fun n hn=>hq0 n (by have:=hgw.size;omega))⟩
   ·intro n hn;have h1:=HE.out;have h2:=hgw.size
    rcases hMd.mi.ge hn with e|e
    ·simp only at e;omega
    ·omega
   ·intro W' B' hs;refine HP.out W' B' (SupI.mono (SupI.chg hs hcg (fun n _ hn=>hq0 n hn)) ?_);have:=Hg.out.size;have:=hg3.size;omega

/- The contract of names. Conditions in it. -/
import Derived.Test.YtlcogjllnbfneaaGreatENb
import Derived.Test.YtlcogjllnbfneaaGreatENc
import Derived.Test.YtlcogjllnbfneaaGreatENdb
set_option maxHeartbeats 4000000
set_option maxRecDepth 100000
set_option linter.all false
namespace Go.Proofs.YtlcogjllnbfneaaGreat
open Lib(hid)
section
open Go.RowKit
def Zgk:Nat->Nat
 |1=>107
 |2=>108
 |3=>109
 |4=>110
 |5=>111
 |6=>112
 |7=>113
 |8=>114
 |9=>115
 |10=>116
 |11=>117
 |12=>118
 |13=>119
 |14=>120
 |15=>121
 |16=>122
 |_=>0
def Zbv (ptr:Value):List (Int×Value):=[((1:Int),Value.func (.func 107) #[ptr] #[]),((2:Int),Value.func (.func 108) #[ptr] #[]),((3:Int),Value.func (.func 109) #[ptr] #[]),((4:Int),Value.func (.func 110) #[ptr] #[]),((5:Int),Value.func (.func 111) #[ptr] #[]),((6:Int),Value.func (.func 112) #[ptr] #[]),((7:Int),Value.func (.func 113) #[ptr] #[]),((8:Int),Value.func (.func 114) #[ptr] #[]),((9:Int),Value.func (.func 115) #[ptr] #[]),((10:Int),Value.func (.func 116) #[ptr] #[]),((11:Int),Value.func (.func 117) #[ptr] #[]),((12:Int),Value.func (.func 118) #[ptr] #[]),((13:Int),Value.func (.func 119) #[ptr] #[]),((14:Int),Value.func (.func 120) #[ptr] #[]),((15:Int),Value.func (.func 121) #[ptr] #[]),((16:Int),Value.func (.func 122) #[ptr] #[])]
theorem Zrb (ptr:Value) (r:Nat) (h1:1<=r) (h2:r<=16):Z6 (Zbv ptr) (r:Int)=some (.func (.func (Zgk r)) #[ptr] #[]):=by
 match r,h1,h2 with
 |1,_,_=>rfl
 |2,_,_=>rfl
 |3,_,_=>rfl
 |4,_,_=>rfl
 |5,_,_=>rfl
 |6,_,_=>rfl
 |7,_,_=>rfl
 |8,_,_=>rfl
 |9,_,_=>rfl
 |10,_,_=>rfl
 |11,_,_=>rfl
 |12,_,_=>rfl
 |13,_,_=>rfl
 |14,_,_=>rfl
 |15,_,_=>rfl
 |16,_,_=>rfl
 |n+17,_,h=>omega
theorem Zlr (r:Nat) (h1:1<=r) (h2:r<=16):∀ args w,(callFunc (Zgk r) args).run Tryz.prog w=.ok (.enter (Zgk r) args) w:=by
 match r,h1,h2 with
 |1,_,_=>exact enters_of Tryz.func107 (by kernel_rfl) rfl
 |2,_,_=>exact enters_of Tryz.func108 (by kernel_rfl) rfl
 |3,_,_=>exact enters_of Tryz.func109 (by kernel_rfl) rfl
 |4,_,_=>exact enters_of Tryz.func110 (by kernel_rfl) rfl
 |5,_,_=>exact enters_of Tryz.func111 (by kernel_rfl) rfl
 |6,_,_=>exact enters_of Tryz.func112 (by kernel_rfl) rfl
 |7,_,_=>exact enters_of Tryz.func113 (by kernel_rfl) rfl
 |8,_,_=>exact enters_of Tryz.func114 (by kernel_rfl) rfl
 |9,_,_=>exact enters_of Tryz.func115 (by kernel_rfl) rfl
 |10,_,_=>exact enters_of Tryz.func116 (by kernel_rfl) rfl
 |11,_,_=>exact enters_of Tryz.func117 (by kernel_rfl) rfl
 |12,_,_=>exact enters_of Tryz.func118 (by kernel_rfl) rfl
 |13,_,_=>exact enters_of Tryz.func119 (by kernel_rfl) rfl
 |14,_,_=>exact enters_of Tryz.func120 (by kernel_rfl) rfl
 |15,_,_=>exact enters_of Tryz.func121 (by kernel_rfl) rfl
 |16,_,_=>exact enters_of Tryz.func122 (by kernel_rfl) rfl
 |n+17,_,h=>omega
theorem Zve (r:Nat) (h1:1<=r) (h2:r<=16) (p:GProg) (vp:Value) (B wb mb:Nat) (w:World) (hB:B<=w.heap.size) (h:WalkAt w B wb p vp (.map (some mb))) (hmb:w.heap[mb]?=some shapeObj):
  Calls Tryz.prog (Zgk r) #[.pointer (some ⟨wb,0,none⟩)] w fun e w'=>e=.returned (ptV (Vn p r))/\w.grownBy w' none:=by
 match r,h1,h2 with
 |1,_,_=>exact Zhx p vp _ B wb w hB h
 |2,_,_=>exact Zla p vp _ B wb w hB h mb rfl hmb
 |3,_,_=>exact Zia p vp _ B wb w hB h
 |4,_,_=>exact Zoy p vp _ B wb w hB h
 |5,_,_=>exact Zgh p vp _ B wb w hB h
 |6,_,_=>exact Zgg p vp _ B wb w hB h
 |7,_,_=>exact Zhb p vp _ B wb w hB h
 |8,_,_=>exact Zka p vp _ B wb w hB h
 |9,_,_=>exact Zjo p vp _ B wb w hB h mb rfl hmb
 |10,_,_=>exact Znn p vp _ B wb w hB h
 |11,_,_=>exact Znq p vp _ B wb w hB h
 |12,_,_=>exact Zml p vp _ B wb w hB h
 |13,_,_=>exact Zox p vp _ B wb w hB h
 |14,_,_=>exact Zrd p vp _ B wb w hB h
 |15,_,_=>exact Zkn p vp _ B wb w hB h
 |16,_,_=>exact Zsw p vp _ B wb w hB h
 |n+17,_,h=>omega
theorem J2 {P:Program} (w:World) (d:Nat) (t:TypeId) (f:Fn) (a b:Array Value) {ps rs v} (h:P.underlying t=some (.func ps rs v)):
  (Op.equalIn (d+1) t (.func f a b) .nilFunc).run P w=.ok false w:=by
 simp[Op.equalIn,run_underlying h]
theorem Zdb {P:Program} (w:World) (t:TypeId) (f:Fn) (a b:Array Value) {ps rs v} (h:P.underlying t=some (.func ps rs v)):
  (binOp .eql t (.func f a b) .nilFunc).run P w=.ok (.bool false) w:=by
 simp only[binOp];simp[Op.equal,Op.maxDepth,J2 w 9999 t f a b h]
theorem Zrv (r:Nat) (h1:1<=r) (h2:r<=16) (p:GProg) (vp:Value) (B:Nat) (w:World) (hB:B<=w.heap.size) (h:ProgAt w B vp p):
  Calls Tryz.prog 86 #[.agg #[vp],.int .u8 r] w fun e w'=>e=.returned (ptV (Vn p r))/\w.grownBy w' none:=by
 have hP:=h;obtain⟨A,c,rfl,hm,hlc,hcm,hA⟩:=h.open_;obtain⟨w3,hw3⟩:∃ w3:World,w3=((((w.alloc (.cells #[.slice A p.length c] 47)).alloc (.cells z3 41)).alloc shapeObj).alloc (.cells #[.slice A p.length c,.map (some (w.heap.size+1+1))] 179)).drew:=⟨_,rfl⟩
 have hs3:w3.heap.size=w.heap.size+4:=by rw[hw3];simp
 have hb3:Below w.heap.size w w3:=by rw[hw3];exact (((((Below.refl w.heap.size w).alloc (Lf _) _).alloc (by simp) _).alloc (by simp;omega) _).alloc (by simp;omega) _).drew
 have hpt:w3.heap[w.heap.size+1]?=some (.cells z3 41 (0,0)):=by
  have:=La (w.alloc (.cells #[.slice A p.length c] 47)) (.cells z3 41);simp only[World.size_alloc] at this;rw[hw3];exact Zc (Zc this _) _
 have hsh:w3.heap[w.heap.size+1+1]?=some shapeObj:=by
  have:=La ((w.alloc (.cells #[.slice A p.length c] 47)).alloc (.cells z3 41)) shapeObj;simp only[World.size_alloc] at this;rw[hw3];exact Zc this _
 have hwk:w3.heap[w.heap.size+1+1+1]?=some (.cells #[.slice A p.length c,.map (some (w.heap.size+1+1))] 179 (0,0)):=by
  have:=La (((w.alloc (.cells #[.slice A p.length c] 47)).alloc (.cells z3 41)).alloc shapeObj) (.cells #[.slice A p.length c,.map (some (w.heap.size+1+1))] 179);simp only[World.size_alloc] at this;rw[hw3];exact this
 obtain⟨w4,hw4⟩:∃ w4:World,w4=w3.alloc (Z7 encUI idV (Zbv (.pointer (some ⟨w.heap.size+1+1+1,0,none⟩)))):=⟨_,rfl⟩
 have hwalk:WalkAt w4 (w.heap.size+4) (w.heap.size+1+1+1) p (.slice A p.length c) (.map (some (w.heap.size+1+1))):=by
  have hb4:Below w.heap.size w w4:=by rw[hw4];exact hb3.alloc (by omega) _
  have h5:w4.heap[w.heap.size+1+1+1]?=some (.cells #[.slice A p.length c,.map (some (w.heap.size+1+1))] 179 (0,0)):=by rw[hw4];exact Zc hwk _
  exact⟨(hP.below funR.keeps hb4 hB).more funR.keeps (by omega),(Za h5).1 0,(Za h5).1 1,by omega⟩
 have hcall:=Zve r h1 h2 p (.slice A p.length c) (w.heap.size+4) (w.heap.size+1+1+1) (w.heap.size+1+1) w4 (by rw[hw4];simp;omega) hwalk (by rw[hw4];exact Zc hsh _);have hlk:=Zrb (.pointer (some ⟨w.heap.size+1+1+1,0,none⟩)) r h1 h2;have hmt:=La w3 (Z7 encUI idV (Zbv (.pointer (some ⟨w.heap.size+1+1+1,0,none⟩))));have eg:=Zlr r h1 h2;have hmm:∀ w:World,(Instr.makeMap 181 none).run Tryz.prog w=.ok (.map (some w.heap.size)) (w.alloc (Z7 encUI idV [])):= @run_makeMap Tryz.prog 181;have hz:(zeroValue 180).run Tryz.prog w4=.ok .nilFunc w4:=by kernel_rfl
 obtain⟨M,hM⟩:∃ M,M=Zgk r:=⟨_,rfl⟩
 rw[<-hM] at hcall hlk eg;have Hb3:=hid hb3;have Hs3:=hid hs3;have Hpt:=hid hpt;have Hw4:=hid hw4;have Hmt:=hid hmt;have Hlk:=hid hlk;clear hw4 hs3 hP h hA hwalk hsh hwk hM hb3 hpt hmt hlk;go_enter Tryz.func86,Tryz.ntmps86;go_wp2;go_region_held3 (fun w'=>w'.cell? ⟨w.heap.size,0,none⟩=some (.slice A p.length c)) (simp[go_sem,World.cell?_alloc_past])
  (first|(go_at_call 106;refine (Zpl _).mono ?_;rintro e w' ⟨rfl,rfl⟩))
 rw[<-hw3];clear hw3;go_upto_region 3 with (first|(refine Vt rfl _ _ _ _ rfl (Zgf Tryz.underlying31) Tryz.underlying181 _ _ rfl rfl _ _ rfl rfl ?_)|(refine Zic rfl _ _ _ rfl (Zgf Tryz.underlying31) Tryz.underlying181 w3.heap.size (Zbv (.pointer (some ⟨w.heap.size+1+1+1,0,none⟩))) rfl Hmt.out (r:Int) rfl .nilFunc (by kernel_rfl) ?_;rw[Hlk.out];simp only[idV]))
 have hW:∀ o,o=Z7 encUI idV (Zbv (.pointer (some ⟨w.heap.size+1+1+1,0,none⟩)))->w3.alloc o=w4:=fun o e=>by rw[e];exact Hw4.out.symm
 rw[hW _ ?tab]
 case tab=>rfl
 have hs4:w4.heap.size=w.heap.size+5:=by rw[Hw4.out,World.size_alloc,Hs3.out]
 have Hb4:=hid (show Below w.heap.size w w4 by rw[Hw4.out];exact Hb3.out.alloc (by have:=Hs3.out;omega) _);have Hpt4:=hid (show w4.heap[w.heap.size+1]?=some (.cells z3 41 (0,0)) by rw[Hw4.out];exact Zc Hpt.out _);clear hW hmm hz Hmt Hlk Hs3 Hw4 Hb3 Hpt;have heq:∀ (W:World) (a b:Array Value),(binOp .eql 180 (.func (.func M) a b) .nilFunc).run Tryz.prog W=.ok (.bool false) W:=fun W a b=>Zdb W _ _ a b Tryz.underlying180
 cases hra:Vn p r with
 |none=>
  rw[hra] at hcall;simp only[ptV,ptC,Option.isSome_none] at hcall
  repeat go_step
  refine hcall.mono ?_;rintro e w5 ⟨rfl,hg5⟩;have h5:=(hg5.block _ (by omega) (by simp)).trans Hpt4.out;obtain⟨k1,k2⟩:=Za h5;have H5:=hid h5;clear h5;go_wp2;refine bodyPost_ret (v:=ptV none) (by simp[results,Tryz.results86,go_sem,ptV,ptC,k1]) rfl ⟨by rw[hra],?_⟩;have h6:=Zb (Zj Hb4.out) hg5
  repeat (first|exact h6|refine Zi ?_ (by simp) _)
 |some pt=>
  rw[hra] at hcall;obtain⟨p1,p2,p3⟩:=pt;simp only[ptV,ptC,Option.isSome_some] at hcall
  repeat go_step
  refine hcall.mono ?_;rintro e w5 ⟨rfl,hg5⟩;have h5:=(hg5.block _ (by omega) (by simp)).trans Hpt4.out;obtain⟨k1,k2⟩:=Za h5;have H5:=hid h5;clear h5;go_wp2;refine bodyPost_ret (v:=ptV (some (p1,p2,p3))) (by simp[results,Tryz.results86,go_sem,ptV,ptC,k1]) rfl ⟨by rw[hra],?_⟩;have h6:=Zb (Zj Hb4.out) hg5
  repeat (first|exact h6|refine Zi ?_ (by simp) _)
end
section
open Go.RowKit
def Uo (r:Nat×GPt):Array Value:= #[.int .u8 r.1,.int .i64 r.2.1,.int .i64 r.2.2.1,.int .i64 r.2.2.2]
def X9 (r:Nat×GPt):Value:=.agg (Uo r)
theorem Zty {p:GProg} (h:∀ r,1<=r->r<=16->Vn p r=none):Yc p=(0,(0,0,0)):=by
 unfold Yc;rw[Qx]
 ·rfl
 ·intro j x hj;have hj':=(Le hj).1;rw[h (1+j) (by omega) (by simp at hj';omega)];rfl
theorem Ztz {p:GProg} {r:Nat} {pt:GPt} (h1:1<=r) (h2:r<=16) (hb:∀ j,1<=j->j<r->Vn p j=none) (h:Vn p r=some pt):Yc p=(r,pt):=by
 unfold Yc;rw[Qy (n:=r-1) (x:=r-1) (r:=(r,pt))]
 ·rfl
 ·intro j hj y _;rw[hb (1+j) (by omega) (by omega)];rfl
 ·rw[List.getElem?_range (by omega)]
 ·rw[show 1+(r-1)=r by omega,h];rfl
theorem Zgl (p:GProg) (vp:Value) (B:Nat) (w:World) (hB:B<=w.heap.size) (h:ProgAt w B vp p):
  Calls Tryz.prog 56 #[.agg #[vp]] w fun e w'=>e=.returned (X9 (Yc p))/\w.grownBy w' none:=by
 have hP:=h;obtain⟨A,c,rfl,hm,hlc,hcm,hA⟩:=h.open_;have HP:=hid hP;clear h hA hP;go_enter Tryz.func56,Tryz.ntmps56;go_wp2;obtain⟨w1,hw1⟩:∃ w1:World,w1=(w.alloc (.cells #[.slice A p.length c] 47)).alloc (.cells #[.int .u8 0,.int .i64 0,.int .i64 0,.int .i64 0] 43):=⟨_,rfl⟩
 have hs1:w1.heap.size=w.heap.size+2:=by rw[hw1];simp
 have hg1:w.grownBy w1 none:=by rw[hw1];exact Zd (Lc w _ none) _
 have hp1:w1.heap[w.heap.size]?=some (.cells #[.slice A p.length c] 47 (0,0)):=by rw[hw1];exact Zc (La w _) _
 have hr1:w1.heap[w.heap.size+1]?=some (.cells #[.int .u8 0,.int .i64 0,.int .i64 0,.int .i64 0] 43 (0,0)):=by
  have:=La (w.alloc (.cells #[.slice A p.length c] 47)) (.cells #[.int .u8 0,.int .i64 0,.int .i64 0,.int .i64 0] 43);simp only[World.size_alloc] at this;rw[hw1];exact this
 rw[<-hw1];clear hw1;go_loopw [3] (fun s3 wr=>∃ r:Nat,1<=r/\r<=17/\s3=.int .u8 r/\Hid (w1.grownBy wr none)/\Hid (∀ j,1<=j->j<r->Vn p j=none)) (fun s3 _=>17-(intOf s3).toNat)
 case atStart=>exact⟨1,Lf _,by omega,rfl,Lb _ _,fun j h1 h2=>by omega⟩
 case round=>
  obtain⟨r,hr1',hr2,rfl,hg,hN⟩:=hrel;have hgw:=Zb hg1 hg.out;have hp2:wr.cell? ⟨w.heap.size,0,none⟩=some (.slice A p.length c):=(Za ((hg.out.block _ (by omega) (by simp)).trans hp1)).1 0;have hszr:=hg.out.size
  by_cases hl:r<=16
  ·have hcall:=Zrv r hr1' hl p (.slice A p.length c) B wr (by omega) (HP.out.below funR.keeps (Zk hgw) hB);have Hgw:=hid hgw;have Hr1:=hid ((hg.out.block _ (by omega) (by simp)).trans hr1)
   cases hra:Vn p r with
   |none=>
    rw[hra] at hcall;simp only[ptV,ptC,Option.isSome_none] at hcall;have Hra:=hid hra;clear hra hgw
    repeat go_step
    refine hcall.mono ?_;rintro e w2 ⟨rfl,hg2⟩;go_wp2;go_roundw
    case rel=>exact⟨r+1,by omega,by omega,by go_num,Zd (Zb hg.out hg2) _,fun j h1 h2=>by
     by_cases e:j=r
     ·subst e;exact Hra.out
     ·exact hN.out j h1 (by omega)⟩
    case measure=>simp[intOf];omega
   |some pt=>
    obtain⟨p1,p2,p3⟩:=pt;rw[hra] at hcall;simp only[ptV,ptC,Option.isSome_some] at hcall;have Hra:=hid hra;clear hra hgw
    repeat go_step
    refine hcall.mono ?_;rintro e w2 ⟨rfl,hg2⟩;have hsz2:=hg2.size;have h3:=(hg2.block _ (by omega) (by simp)).trans Hr1.out;obtain⟨k1,k2⟩:=Za h3;clear h3;have hne:w.heap.size+1≠w2.heap.size:=by omega
    have hlt2:w.heap.size+1<w2.heap.size:=by omega
    go_wp2;refine bodyPost_ret (v:=X9 (r,(p1,p2,p3))) (by simp[results,Tryz.results56,go_sem,X9,Uo,k1,hne,hlt2]) rfl ⟨by rw[Ztz hr1' hl hN.out Hra.out],?_⟩;have h6:=Zb Hgw.out hg2
    repeat (first|exact h6|apply Zd|refine Zi ?_ (by simp) _)
  ·obtain rfl:r=17:=by omega
   have HD:=hid (show Yc p=(0,(0,0,0)) from Zty fun r h1 h2=>hN.out r h1 (by omega));have h3:=(hg.out.block _ (by omega) (by simp)).trans hr1;obtain⟨k1,k2⟩:=Za h3;have Hgw:=hid hgw;clear h3 hgw;go_wp2;refine bodyPost_ret (v:=X9 (0,(0,0,0))) (by simp[results,Tryz.results56,go_sem,X9,Uo,k1]) rfl ⟨by rw[HD.out],?_⟩
   repeat (first|exact Hgw.out|refine Zi ?_ (by simp) _)
end

/- A known program, as law14_known builds it. No condition. -/
import Derived.Test.YtphnnmecmiodhaaGreatEFq
import Derived.Test.YtphnnmecmiodhaaGreatEKh
import Derived.Test.YtphnnmecmiodhaaGreatELsf
set_option maxHeartbeats 4000000
set_option maxRecDepth 100000
set_option linter.all false
namespace Go.Proofs.YtphnnmecmiodhaaGreat
open Lib(hid)
section
open Go.RowKit Go.Shelf
def kn14l1:List GIns:=[⟨1,[112],[],[],1,[],[],[]⟩,⟨4,[102],[],[],0,[109,97,105,110],[],[]⟩,⟨9,[],[102],[112],0,[],[],[]⟩,⟨8,[113],[112],[],0,[],[],[]⟩,⟨11,[],[113],[],0,[],[],[]⟩,⟨14,[],[],[],0,[],[],[]⟩]
def kn14l2:List GBlk:=[⟨[101],kn14l1⟩]
def kn14l3:GProg:=[⟨[109,97,105,110],[],kn14l2⟩]
def kn14p:GProg:=kn14l3
def Vs (w:World):World:=(((w.alloc (.cells #[.slice (some ⟨w.heap.size+1+1+1,0,none⟩) 1 1] 47)).alloc (.cells #[.int .u8 1,.string ⟨#[112]⟩,.string ⟨#[]⟩,.string ⟨#[]⟩,.int .i64 1,.string ⟨#[]⟩,.slice none 0 0,.slice none 0 0,.int .u8 4,.string ⟨#[102]⟩,.string ⟨#[]⟩,.string ⟨#[]⟩,.int .i64 0,.string ⟨#[109,97,105,110]⟩,.slice none 0 0,.slice none 0 0,.int .u8 9,.string ⟨#[]⟩,.string ⟨#[102]⟩,.string ⟨#[112]⟩,.int .i64 0,.string ⟨#[]⟩,.slice none 0 0,.slice none 0 0,.int .u8 8,.string ⟨#[113]⟩,.string ⟨#[112]⟩,.string ⟨#[]⟩,.int .i64 0,.string ⟨#[]⟩,.slice none 0 0,.slice none 0 0,.int .u8 11,.string ⟨#[]⟩,.string ⟨#[113]⟩,.string ⟨#[]⟩,.int .i64 0,.string ⟨#[]⟩,.slice none 0 0,.slice none 0 0,.int .u8 14,.string ⟨#[]⟩,.string ⟨#[]⟩,.string ⟨#[]⟩,.int .i64 0,.string ⟨#[]⟩,.slice none 0 0,.slice none 0 0] 25)).alloc (.cells #[.string ⟨#[101]⟩,.slice (some ⟨w.heap.size+1,0,none⟩) 6 6] 39)).alloc (.cells #[.string ⟨#[109,97,105,110]⟩,.slice none 0 0,.slice (some ⟨w.heap.size+1+1,0,none⟩) 1 1] 37)
theorem Zps (w:World):(Vs w).heap.size=w.heap.size+4:=by simp[Vs]
theorem Znj (w:World):w.grownBy (Vs w) none:=by
 unfold Vs
 repeat (first|exact Lc _ _ _|refine Zd ?_ _)
theorem Z0 (w:World):(Vs w).heap[w.heap.size+1]?=some (.cells #[.int .u8 1,.string ⟨#[112]⟩,.string ⟨#[]⟩,.string ⟨#[]⟩,.int .i64 1,.string ⟨#[]⟩,.slice none 0 0,.slice none 0 0,.int .u8 4,.string ⟨#[102]⟩,.string ⟨#[]⟩,.string ⟨#[]⟩,.int .i64 0,.string ⟨#[109,97,105,110]⟩,.slice none 0 0,.slice none 0 0,.int .u8 9,.string ⟨#[]⟩,.string ⟨#[102]⟩,.string ⟨#[112]⟩,.int .i64 0,.string ⟨#[]⟩,.slice none 0 0,.slice none 0 0,.int .u8 8,.string ⟨#[113]⟩,.string ⟨#[112]⟩,.string ⟨#[]⟩,.int .i64 0,.string ⟨#[]⟩,.slice none 0 0,.slice none 0 0,.int .u8 11,.string ⟨#[]⟩,.string ⟨#[113]⟩,.string ⟨#[]⟩,.int .i64 0,.string ⟨#[]⟩,.slice none 0 0,.slice none 0 0,.int .u8 14,.string ⟨#[]⟩,.string ⟨#[]⟩,.string ⟨#[]⟩,.int .i64 0,.string ⟨#[]⟩,.slice none 0 0,.slice none 0 0] 25 (0,0)):=by
 have h:=La (w.alloc (.cells #[.slice (some ⟨w.heap.size+1+1+1,0,none⟩) 1 1] 47)) (.cells #[.int .u8 1,.string ⟨#[112]⟩,.string ⟨#[]⟩,.string ⟨#[]⟩,.int .i64 1,.string ⟨#[]⟩,.slice none 0 0,.slice none 0 0,.int .u8 4,.string ⟨#[102]⟩,.string ⟨#[]⟩,.string ⟨#[]⟩,.int .i64 0,.string ⟨#[109,97,105,110]⟩,.slice none 0 0,.slice none 0 0,.int .u8 9,.string ⟨#[]⟩,.string ⟨#[102]⟩,.string ⟨#[112]⟩,.int .i64 0,.string ⟨#[]⟩,.slice none 0 0,.slice none 0 0,.int .u8 8,.string ⟨#[113]⟩,.string ⟨#[112]⟩,.string ⟨#[]⟩,.int .i64 0,.string ⟨#[]⟩,.slice none 0 0,.slice none 0 0,.int .u8 11,.string ⟨#[]⟩,.string ⟨#[113]⟩,.string ⟨#[]⟩,.int .i64 0,.string ⟨#[]⟩,.slice none 0 0,.slice none 0 0,.int .u8 14,.string ⟨#[]⟩,.string ⟨#[]⟩,.string ⟨#[]⟩,.int .i64 0,.string ⟨#[]⟩,.slice none 0 0,.slice none 0 0] 25);simp only[World.size_alloc] at h;exact Zc (Zc (h) _) _
theorem Zqz (w:World):(Vs w).heap[w.heap.size+1+1]?=some (.cells #[.string ⟨#[101]⟩,.slice (some ⟨w.heap.size+1,0,none⟩) 6 6] 39 (0,0)):=by
 have h:=La ((w.alloc (.cells #[.slice (some ⟨w.heap.size+1+1+1,0,none⟩) 1 1] 47)).alloc (.cells #[.int .u8 1,.string ⟨#[112]⟩,.string ⟨#[]⟩,.string ⟨#[]⟩,.int .i64 1,.string ⟨#[]⟩,.slice none 0 0,.slice none 0 0,.int .u8 4,.string ⟨#[102]⟩,.string ⟨#[]⟩,.string ⟨#[]⟩,.int .i64 0,.string ⟨#[109,97,105,110]⟩,.slice none 0 0,.slice none 0 0,.int .u8 9,.string ⟨#[]⟩,.string ⟨#[102]⟩,.string ⟨#[112]⟩,.int .i64 0,.string ⟨#[]⟩,.slice none 0 0,.slice none 0 0,.int .u8 8,.string ⟨#[113]⟩,.string ⟨#[112]⟩,.string ⟨#[]⟩,.int .i64 0,.string ⟨#[]⟩,.slice none 0 0,.slice none 0 0,.int .u8 11,.string ⟨#[]⟩,.string ⟨#[113]⟩,.string ⟨#[]⟩,.int .i64 0,.string ⟨#[]⟩,.slice none 0 0,.slice none 0 0,.int .u8 14,.string ⟨#[]⟩,.string ⟨#[]⟩,.string ⟨#[]⟩,.int .i64 0,.string ⟨#[]⟩,.slice none 0 0,.slice none 0 0] 25)) (.cells #[.string ⟨#[101]⟩,.slice (some ⟨w.heap.size+1,0,none⟩) 6 6] 39);simp only[World.size_alloc] at h;exact Zc (h) _
theorem Zkp (w:World):(Vs w).heap[w.heap.size+1+1+1]?=some (.cells #[.string ⟨#[109,97,105,110]⟩,.slice none 0 0,.slice (some ⟨w.heap.size+1+1,0,none⟩) 1 1] 37 (0,0)):=by
 have h:=La (((w.alloc (.cells #[.slice (some ⟨w.heap.size+1+1+1,0,none⟩) 1 1] 47)).alloc (.cells #[.int .u8 1,.string ⟨#[112]⟩,.string ⟨#[]⟩,.string ⟨#[]⟩,.int .i64 1,.string ⟨#[]⟩,.slice none 0 0,.slice none 0 0,.int .u8 4,.string ⟨#[102]⟩,.string ⟨#[]⟩,.string ⟨#[]⟩,.int .i64 0,.string ⟨#[109,97,105,110]⟩,.slice none 0 0,.slice none 0 0,.int .u8 9,.string ⟨#[]⟩,.string ⟨#[102]⟩,.string ⟨#[112]⟩,.int .i64 0,.string ⟨#[]⟩,.slice none 0 0,.slice none 0 0,.int .u8 8,.string ⟨#[113]⟩,.string ⟨#[112]⟩,.string ⟨#[]⟩,.int .i64 0,.string ⟨#[]⟩,.slice none 0 0,.slice none 0 0,.int .u8 11,.string ⟨#[]⟩,.string ⟨#[113]⟩,.string ⟨#[]⟩,.int .i64 0,.string ⟨#[]⟩,.slice none 0 0,.slice none 0 0,.int .u8 14,.string ⟨#[]⟩,.string ⟨#[]⟩,.string ⟨#[]⟩,.int .i64 0,.string ⟨#[]⟩,.slice none 0 0,.slice none 0 0] 25)).alloc (.cells #[.string ⟨#[101]⟩,.slice (some ⟨w.heap.size+1,0,none⟩) 6 6] 39)) (.cells #[.string ⟨#[109,97,105,110]⟩,.slice none 0 0,.slice (some ⟨w.heap.size+1+1,0,none⟩) 1 1] 37);simp only[World.size_alloc] at h;exact h
theorem wkn14_c (w:World):(Vs w).heap[w.heap.size]?=some (.cells #[.slice (some ⟨w.heap.size+1+1+1,0,none⟩) 1 1] 47 (0,0)):=by
 have h:=La w (.cells #[.slice (some ⟨w.heap.size+1+1+1,0,none⟩) 1 1] 47);exact Zc (Zc (Zc (h) _) _) _
theorem Zpr (w:World):ProgAt (Vs w) (Vs w).heap.size (.slice (some ⟨w.heap.size+1+1+1,0,none⟩) 1 1) kn14p:=by
 have hs:=Zps w;have h1:CodeAt (Vs w) (Vs w).heap.size (.slice (some ⟨w.heap.size+1,0,none⟩) 6 6) kn14l1:=Zpm rfl (by decide) (by omega) (V8 ⟨_,_,⟨SlAt.nil_ strR 1 _ _,by decide,by decide,SlAt.nil_ strR 1 _ _,by decide,by decide,by decide,by decide,by decide,by decide,by decide⟩,(Za (Z0 w)).1 0,(Za (Z0 w)).1 1,(Za (Z0 w)).1 2,(Za (Z0 w)).1 3,(Za (Z0 w)).1 4,(Za (Z0 w)).1 5,(Za (Z0 w)).1 6,(Za (Z0 w)).1 7⟩ (V8 ⟨_,_,⟨SlAt.nil_ strR 1 _ _,by decide,by decide,SlAt.nil_ strR 1 _ _,by decide,by decide,by decide,by decide,by decide,by decide,by decide⟩,(Za (Z0 w)).1 8,(Za (Z0 w)).1 9,(Za (Z0 w)).1 10,(Za (Z0 w)).1 11,(Za (Z0 w)).1 12,(Za (Z0 w)).1 13,(Za (Z0 w)).1 14,(Za (Z0 w)).1 15⟩ (V8 ⟨_,_,⟨SlAt.nil_ strR 1 _ _,by decide,by decide,SlAt.nil_ strR 1 _ _,by decide,by decide,by decide,by decide,by decide,by decide,by decide⟩,(Za (Z0 w)).1 16,(Za (Z0 w)).1 17,(Za (Z0 w)).1 18,(Za (Z0 w)).1 19,(Za (Z0 w)).1 20,(Za (Z0 w)).1 21,(Za (Z0 w)).1 22,(Za (Z0 w)).1 23⟩ (V8 ⟨_,_,⟨SlAt.nil_ strR 1 _ _,by decide,by decide,SlAt.nil_ strR 1 _ _,by decide,by decide,by decide,by decide,by decide,by decide,by decide⟩,(Za (Z0 w)).1 24,(Za (Z0 w)).1 25,(Za (Z0 w)).1 26,(Za (Z0 w)).1 27,(Za (Z0 w)).1 28,(Za (Z0 w)).1 29,(Za (Z0 w)).1 30,(Za (Z0 w)).1 31⟩ (V8 ⟨_,_,⟨SlAt.nil_ strR 1 _ _,by decide,by decide,SlAt.nil_ strR 1 _ _,by decide,by decide,by decide,by decide,by decide,by decide,by decide⟩,(Za (Z0 w)).1 32,(Za (Z0 w)).1 33,(Za (Z0 w)).1 34,(Za (Z0 w)).1 35,(Za (Z0 w)).1 36,(Za (Z0 w)).1 37,(Za (Z0 w)).1 38,(Za (Z0 w)).1 39⟩ (V8 ⟨_,_,⟨SlAt.nil_ strR 1 _ _,by decide,by decide,SlAt.nil_ strR 1 _ _,by decide,by decide,by decide,by decide,by decide,by decide,by decide⟩,(Za (Z0 w)).1 40,(Za (Z0 w)).1 41,(Za (Z0 w)).1 42,(Za (Z0 w)).1 43,(Za (Z0 w)).1 44,(Za (Z0 w)).1 45,(Za (Z0 w)).1 46,(Za (Z0 w)).1 47⟩ Zfz))))));have h2:BlocksAt (Vs w) (Vs w).heap.size (.slice (some ⟨w.heap.size+1+1,0,none⟩) 1 1) kn14l2:=Zpm rfl (by decide) (by omega) (V8 ⟨_,⟨h1,by decide⟩,(Za (Zqz w)).1 0,(Za (Zqz w)).1 1⟩ Zfz);have h3:ProgAt (Vs w) (Vs w).heap.size (.slice (some ⟨w.heap.size+1+1+1,0,none⟩) 1 1) kn14l3:=Zpm rfl (by decide) (by omega) (V8 ⟨_,_,⟨SlAt.nil_ strR 1 _ _,h2,by decide⟩,(Za (Zkp w)).1 0,(Za (Zkp w)).1 1,(Za (Zkp w)).1 2⟩ Zfz);exact h3
theorem Zuw (w:World):Calls Tryz.prog 75 #[] w fun e w'=>e=.returned (.agg #[.slice (some ⟨w.heap.size+1+1+1,0,none⟩) 1 1])/\w'=Vs w:=by
 have hw:Vs w=(((w.alloc (.cells #[.slice (some ⟨w.heap.size+1+1+1,0,none⟩) 1 1] 47)).alloc (.cells #[.int .u8 1,.string ⟨#[112]⟩,.string ⟨#[]⟩,.string ⟨#[]⟩,.int .i64 1,.string ⟨#[]⟩,.slice none 0 0,.slice none 0 0,.int .u8 4,.string ⟨#[102]⟩,.string ⟨#[]⟩,.string ⟨#[]⟩,.int .i64 0,.string ⟨#[109,97,105,110]⟩,.slice none 0 0,.slice none 0 0,.int .u8 9,.string ⟨#[]⟩,.string ⟨#[102]⟩,.string ⟨#[112]⟩,.int .i64 0,.string ⟨#[]⟩,.slice none 0 0,.slice none 0 0,.int .u8 8,.string ⟨#[113]⟩,.string ⟨#[112]⟩,.string ⟨#[]⟩,.int .i64 0,.string ⟨#[]⟩,.slice none 0 0,.slice none 0 0,.int .u8 11,.string ⟨#[]⟩,.string ⟨#[113]⟩,.string ⟨#[]⟩,.int .i64 0,.string ⟨#[]⟩,.slice none 0 0,.slice none 0 0,.int .u8 14,.string ⟨#[]⟩,.string ⟨#[]⟩,.string ⟨#[]⟩,.int .i64 0,.string ⟨#[]⟩,.slice none 0 0,.slice none 0 0] 25)).alloc (.cells #[.string ⟨#[101]⟩,.slice (some ⟨w.heap.size+1,0,none⟩) 6 6] 39)).alloc (.cells #[.string ⟨#[109,97,105,110]⟩,.slice none 0 0,.slice (some ⟨w.heap.size+1+1,0,none⟩) 1 1] 37):=rfl;have hc:=(Za (wkn14_c w)).1 0;go_enter Tryz.func75,Tryz.ntmps75;go_wp2;rw[<-hw];clear hw;refine bodyPost_ret (v:=.agg #[.slice (some ⟨w.heap.size+1+1+1,0,none⟩) 1 1]) (by simp[results,Tryz.results75,go_sem,hc]) rfl ⟨rfl,rfl⟩
end
section
open Go.RowKit Go.Shelf
def mvN (p:GProg):Nat->GM
 |0=>gm0 p
 |n+1=>(mvN p n).move p false
theorem Zux:Y5 kn14p=(0,(0,0,0)):=Zkk (by decide+kernel) (by decide+kernel) (by decide+kernel) (by decide+kernel)
theorem Zuy:((mvN kn14p 1).stop=0/\(mvN kn14p 2).stop=0/\(mvN kn14p 3).stop=0/\(mvN kn14p 4).stop=0/\(mvN kn14p 5).stop=0)/\Z6 (mvN kn14p 4).top.vars 2=some ⟨2,0,0⟩/\(mvN kn14p 5).acts.length=2/\(mvN kn14p 5).did=true/\(mvN kn14p 5).ent=((0,0,4),0):=by decide+kernel
theorem Xi (w:World):Calls Tryz.prog 30 #[] w fun e w'=>e=.returned (.bool true)/\w.grownBy w' none:=by
 have hz:(Y5 kn14p).1=0:=by rw[Zux]
 have hnew:=Zgx kn14p _ (Vs w) (Vs w).heap.size (Lf _) (Zpr w) hz;have Hg0:=hid (Znj w);have HR:=hid Zuy;have HK0:=hid (Zoi (Jt hz));clear hz;obtain⟨W0,hW0⟩:∃ W0,W0=Vs w:=⟨_,rfl⟩
 have hkn:=Zuw w;rw[<-hW0] at hnew Hg0 hkn;clear hW0;go_enter Tryz.func30,Tryz.ntmps30;go_upto_region 2 with (first|(go_at_call 75;refine hkn.mono ?_;rintro e w0 ⟨rfl,rfl⟩)|(go_at_call 31;refine hnew.mono ?_;rintro e w1 ⟨wB,lo,ms,vp,g,rfl,hE,hM,l1,l2,l3,hg1⟩))
 have hI:TwoI kn14p w w1 w1.heap.size wB ms vp w1 g (gm0 kn14p):=TwoI.start Hg0.out hM HK0.out l2 l3 hg1 (Lb _ _);have HE:=hid hE;have HI:=hid hI;clear hnew hkn hM l1 l2 l3 hg1 hE hI;go_wp2_with fail;go_loopw [3] (fun s3 wr=>∃ i:Nat,i<=4/\s3=.int .i64 i/\Hid (∃ g',g'.m=g.m/\TwoI kn14p w w1 w1.heap.size wB ms vp wr g' (mvN kn14p i))) (fun s3 _=>4-(intOf s3).toNat)
 case atStart=>exact⟨0,by omega,rfl,g,rfl,HI.out⟩
 case round=>
  obtain⟨i,hi,rfl,hh⟩:=hrel;obtain⟨g',hgm,hI⟩:=hh.out
  by_cases hil:i<4
  ·have hmv:=hI.move HE.out 0;have hst:(mvN kn14p (i+1)).stop=0:=by
    obtain⟨⟨r1,r2,r3,r4,-⟩,-⟩:=HR.out;have:i=0\/i=1\/i=2\/i=3:=by omega
    rcases this with rfl|rfl|rfl|rfl<;>assumption
   have e:(mvN kn14p i).move kn14p (decide ((0:Int) % 2=1))=mvN kn14p (i+1):=rfl;rw[e,hst,hgm] at hmv;clear hh hI e hst;go_wp2_with (go_at_call 36;refine hmv.mono ?_;rintro e w3 ⟨rfl,g3,hm3,-,hI3⟩;have Hn:=hid (show ∃ g',g'.m=g.m/\TwoI kn14p w w1 w1.heap.size wB ms vp w3 g' (mvN kn14p (i+1)) from ⟨g3,hm3,hI3⟩);clear hm3 hI3);go_roundw
   case rel=>exact⟨i+1,by omega,by go_num,Hn.out⟩
   case measure=>simp[intOf];omega
  ·obtain rfl:i=4:=by omega
   have hst:(mvN kn14p 4).stop=0:=HR.out.1.2.2.2.1;obtain⟨l,a,ha⟩:=hI.acts hst;have hv:=Ziw hI.ma ha 2;rw[<-X1 ha,HR.out.2.1,hgm] at hv;simp only[Option.getD_some,Option.isSome_some,Yf] at hv;rw[show ((2:Nat):Int)=2 from rfl,show ((0:Nat):Int)=0 from rfl] at hv;have Hlt:=hid (fun n (q:SQ g' n)=>hI.ma.lt q)
   have Hmv:=hid (show ∀ W,wr.grownBy W none->Calls Tryz.prog 36 #[.pointer (some ⟨g.m,0,none⟩),.int .i64 0] W fun e w'=>e=.returned (.int .u8 0)/\∃ g5,g5.m=g.m/\Stp W g' w' g5/\TwoI kn14p w w1 w1.heap.size wB ms vp w' g5 (mvN kn14p 5) from fun W hg=>by
    have h:=(hI.grow hg).move HE.out 0
    have e:(mvN kn14p 4).move kn14p (decide ((0:Int) % 2=1))=mvN kn14p 5:=rfl
    rw[e,HR.out.1.2.2.2.2,hgm] at h
    exact h)
   clear hh hI hst ha;go_upto_region 10 with (go_at_call 35;refine hv.mono ?_;rintro e w3 ⟨rfl,hg3⟩)
   obtain⟨w4,hw4⟩:∃ w4,w4=w3.alloc (.cells #[.int .u8 2,.int .i64 0,.int .i64 0] 72):=⟨_,rfl⟩
   rw[<-hw4];have hg4:wr.grownBy w4 none:=by rw[hw4];exact Zd hg3 _
   have hb4:w4.heap[w3.heap.size]?=some (.cells #[.int .u8 2,.int .i64 0,.int .i64 0] 72 (0,0)):=by rw[hw4];exact La _ _
   have hmv:=Hmv.out w4 hg4;have Hg3:=hid hg3.size;have Hb4:=hid hb4;clear hw4 hg4 hb4 hg3 hv;go_upto_region 11 with (go_at_call 36;refine hmv.mono ?_;rintro e w5 ⟨rfl,g5,hm5,hs5,hI5⟩)
   have he:=Jb hI5.ma;rw[hm5,HR.out.2.2.2.1,HR.out.2.2.2.2,if_pos rfl] at he;simp only[Zhm] at he;rw[show ((4:Nat):Int)=4 from rfl,show ((0:Nat):Int)=0 from rfl] at he;have hb5:=hs5.chg.at_ Hb4.out (fun q=>by have:=Hlt.out _ q;have:=Hg3.out;omega);have HI5:=hid hI5;have Hb5:=hid hb5;clear hmv hs5 hI5 hb5;go_upto_region 12 with (go_at_call 40;refine he.mono ?_;rintro e w6 ⟨rfl,hg6⟩)
   obtain⟨w7,hw7⟩:∃ w7,w7=w6.alloc (.cells #[.int .i64 0,.int .i64 0,.int .i64 4,.int .i64 0] 81):=⟨_,rfl⟩
   rw[<-hw7];have hg67:w6.grownBy w7 none:=by rw[hw7];exact Lc _ _ _
   have hb7:w7.heap[w6.heap.size]?=some (.cells #[.int .i64 0,.int .i64 0,.int .i64 4,.int .i64 0] 81 (0,0)):=by rw[hw7];exact La _ _
   have hg57:=Zb hg6 hg67;have hb57:=(hg57.block _ (Ze Hb5.out) (by simp)).trans Hb5.out;have hdp:=Q4 (HI5.out.grow hg57).ma;rw[hm5,HR.out.2.2.1] at hdp;rw[show ((2:Nat):Int)=2 from rfl] at hdp;have x0:=(Za hb57).1 0;have x1:=(Za hb57).1 1;have x2:=(Za hb57).1 2;have z0:=(Za hb7).1 0;have z1:=(Za hb7).1 1;have z2:=(Za hb7).1 2;have z3:=(Za hb7).1 3;have HG:=hid ((HI5.out.grow hg57).base.all fun n h1 h2=>by omega);clear he hw7 hg67 hb7 hg57 hb57 hg6;go_wp2_with (go_at_call 38;refine hdp.mono ?_;rintro e w8 ⟨rfl,rfl⟩);go_ret;exact⟨rfl,HG.out⟩
end
section
open Go.RowKit Go.Shelf
theorem Zdt (p:GProg) (vp:Value) (w:World) (B:Nat) (hB:B<=w.heap.size) (h:ProgAt w B vp p):Calls Tryz.prog 29 #[.agg #[vp]] w fun e w'=>∃ b,e=.returned (.bool b)/\w.grownBy w' none:=by
 obtain⟨A,c,rfl,m1,m2,m3,hA⟩:=h.open_;obtain⟨W,hW⟩:∃ W:World,W=w.alloc (.cells #[.slice A p.length c] 47):=⟨_,rfl⟩
 have hgW:w.grownBy W none:=by rw[hW];exact Lc _ _ _
 have hb:W.heap[w.heap.size]?=some (.cells #[.slice A p.length c] 47 (0,0)):=by rw[hW];exact La _ _
 have HS:=hid (show ∀ W',W.grownBy W' none->W'.cell? ⟨w.heap.size,0,none⟩=some (.slice A p.length c) from fun W' hg=>(Lj (hg.block w.heap.size (Ze hb) (by simp))).trans ((Za hb).1 0));have HgW:=hid hgW;have HA:=hid hA;have hc:=HS.out W (Lb _ _);clear hb hgW hA h;go_enter Tryz.func29,Tryz.ntmps29;go_upto_region 1 with (fail)
 rw[<-hW];clear hW
 by_cases h6:(6:Int)<p.length
 ·go_wp2;go_ret;exact⟨_,rfl,HgW.out⟩
 ·go_wp2;clear hc;go_loopw [3,4] (fun s3 s4 wr=>∃ (z:Int) (i:Nat),i<=p.length/\s3=.int .i64 z/\s4=.int .i64 i/\Hid (W.grownBy wr none)) (fun _ s4 _=>p.length-(intOf s4).toNat)
  case atStart=>exact⟨0,0,Ln _,rfl,rfl,Lb _ _⟩
  case round=>
   obtain⟨z,i,hi,rfl,rfl,hg⟩:=hrel;have hc:=HS.out wr hg.out
   by_cases hil:i<p.length
   ·obtain⟨x,b,off,hx,rfl,hbB,hr⟩:=HA.out.at_ hil;obtain⟨A1,d1,A2,d2,hf,n1,n2,e0,e1,e2⟩:=Yh hr;have hbw:b<w.heap.size:=by omega
    have hlow:=Zk (Zb HgW.out hg.out)
    have HF:=hid (show ∀ W',wr.grownBy W' none->W'.cell? ⟨w.heap.size,0,none⟩=some (.slice (some ⟨b,off,none⟩) p.length c)/\W'.cell? ⟨b,off+i*3+1,none⟩=some (.slice A1 x.params.length d1)/\W'.cell? ⟨b,off+i*3+2,none⟩=some (.slice A2 x.bk9.length d2) from fun W' hg'=>by
     have hb':=Zk (Zb HgW.out (Zb hg.out hg'))
     exact⟨HS.out W' (Zb hg.out hg'),cur hb' hbw e1,cur hb' hbw e2⟩)
    obtain⟨k0,k1,k2⟩:=HF.out wr (Lb _ _);have HBl:=hid hf.bk9;have Hx:=hid hx;clear hx hr hf e0 e1 e2 hlow hc
    by_cases hbl:(20:Int)<x.bk9.length
    ·go_wp2;go_ret
     first|exact⟨_,rfl,Zb HgW.out hg.out⟩|exact⟨.inl rfl,Zb HgW.out hg.out⟩|exact⟨.inr rfl,Zb HgW.out hg.out⟩
    ·by_cases hpl:(20:Int)<x.params.length
     ·go_wp2;go_ret
      first|exact⟨_,rfl,Zb HgW.out hg.out⟩|exact⟨.inl rfl,Zb HgW.out hg.out⟩|exact⟨.inr rfl,Zb HgW.out hg.out⟩
     ·go_wp2;clear k0 k1 k2;go_loopw [3,5] (fun s3 s5 wi=>∃ (z:Int) (k:Nat),k<=x.bk9.length/\s3=.int .i64 z/\s5=.int .i64 k/\Hid (wr.grownBy wi none)) (fun _ s5 _=>x.bk9.length-(intOf s5).toNat)
      case atStart=>exact⟨z,0,Ln _,rfl,rfl,Lb _ _⟩
      case round=>
       obtain⟨z2,k,hk,rfl,rfl,hg2⟩:=hrel;obtain⟨k0,k1,k2⟩:=HF.out wr hg2.out
       by_cases hkl:k<x.bk9.length
       ·obtain⟨y,b4,off4,hy,rfl,hb4,hby⟩:=HBl.out.at_ hkl;obtain⟨vc,hyb,y0,y1⟩:=hby;obtain⟨A5,d5,rfl,o1,o2,o3,-⟩:=hyb.code.open_;have y1':=cur (Zk (Zb HgW.out (Zb hg.out hg2.out))) (show b4<w.heap.size by omega) y1;clear hy y0 y1 hyb;go_wp2;go_roundw
        case rel=>exact⟨_,k+1,by omega,rfl,by go_num,hg2.out⟩
        case measure=>simp[intOf];omega
       ·obtain rfl:k=x.bk9.length:=by omega
        go_wp2;go_roundw
        case rel=>exact⟨_,i+1,by omega,rfl,by go_num,Zb hg.out hg2.out⟩
        case measure=>simp[intOf];omega
   ·obtain rfl:i=p.length:=by omega
    go_wp2;go_ret
    first|exact⟨_,rfl,Zb HgW.out hg.out⟩|exact⟨.inl rfl,Zb HgW.out hg.out⟩|exact⟨.inr rfl,Zb HgW.out hg.out⟩
end

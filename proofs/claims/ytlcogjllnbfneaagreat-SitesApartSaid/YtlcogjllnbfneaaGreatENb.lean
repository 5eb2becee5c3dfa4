/- Contracts of names. Conditions in it. -/
import Derived.Test.YtlcogjllnbfneaaGreatENa
import Derived.Test.YtlcogjllnbfneaaGreatESli
set_option maxHeartbeats 2000000
set_option maxRecDepth 100000
set_option linter.all false
namespace Go.Proofs.YtlcogjllnbfneaaGreat
open Lib(hid)
section
open Go.RowKit
theorem Zas {l:List GIns} {k:Nat} {z:GIns} (h:l[k]?=some z):Qd (l.take (k+1))=Qd (l.take k)++[z.dst]:=Kr h
theorem Zfq {l:List GBlk} {k:Nat} {y:GBlk} (h:l[k]?=some y):Vb (l.take (k+1))=Vb (l.take k)++Qd y.code:=by
 rw[List.take_add_one,h];simp[Vb]
theorem Zha {α:Type} {l:List α} {k:Nat} {x:α} (h:l[k]?=some x):l.take (k+1)=l.take k++[x]:=by
 rw[List.take_add_one,h];rfl
theorem Zkn (p:GProg) (vp vm:Value) (B wb:Nat) (w:World) (hB:B<=w.heap.size) (h:WalkAt w B wb p vp vm):
  Calls Tryz.prog 121 #[.pointer (some ⟨wb,0,none⟩)] w fun e w'=>e=.returned (ptV (Uv p))/\w.grownBy w' none:=by
 obtain⟨A,c,rfl,hm,hlc,hcm,hA⟩:=h.prog.open_;have c0:=h.c0;have hlt:wb<w.heap.size:=by have:=h.lt;omega
 have hne:wb≠w.heap.size:=by omega
 clear h;go_enter Tryz.func121,Tryz.ntmps121;go_wp2;go_loopw [19] (fun s8 wr=>∃ k:Nat,k<=p.length/\s8=.int .i64 k/\Hid ((w.alloc (.cells z3 41)).grownBy wr none)/\Hid (∀ j,j<k->∀ y,p[j]?=some y->tvF j y=none)) (fun s8 _=>p.length-(intOf s8).toNat)
 case atStart=>exact⟨0,Ln _,rfl,Lb _ _,Z2⟩
 case round=>
  obtain⟨k,hkl,rfl,hg,hP⟩:=hrel;have hsz:=Xc hg.out;have hne0:w.heap.size≠wr.heap.size:=by omega
  have hblk:=Xu hg.out;have hb:=Yt hg.out
  by_cases hl:k<p.length
  ·obtain⟨x,b,off,hx,rfl,hbB,hr⟩:=hA.at_ hl;obtain⟨A1,d1,A2,d2,hf,m1,m2,e0,e1,e2⟩:=Yh hr;have hb':b<w.heap.size:=by omega
   have hbne:b≠wr.heap.size:=by omega
   replace e0:=cur hb hb' e0;replace e1:=cur hb hb' e1;replace e2:=cur hb hb' e2;have Hx:=hid hx;clear hx hr hb;have hFe:tvF k x=match Zq x.params (tvP k x.params) with|some r=>some r|none=>Zq x.bk9 (tvB k x.params x.bk9):=rfl
   have HFe:=hid hFe;clear hFe;have Hblk:=hid hblk;clear hblk;have hmm:=Kh;go_wp2_with fail;clear hmm;obtain⟨g1,hge⟩:∃ g1,g1=wr.heap.size:=⟨_,rfl⟩
   obtain⟨r,hr⟩:∃ r,r=wr.heap.size+1:=⟨_,rfl⟩
   rw[<-hr,<-hge];have hrs:w.heap.size<r:=by omega
   have hgs:w.heap.size<g1:=by omega
   have hrg:g1≠r:=by omega
   obtain⟨wp,hwp⟩:∃ wp:World,wp=(wr.alloc (.cells #[.string ⟨x.name.toArray⟩,.slice A1 x.params.length d1,.slice A2 x.bk9.length d2] 37)).alloc (Ye []):=⟨_,rfl⟩
   rw[<-hwp];have hsn:wp.heap[r]?=some (Ye []):=by
    have:=La (wr.alloc (.cells #[.string ⟨x.name.toArray⟩,.slice A1 x.params.length d1,.slice A2 x.bk9.length d2] 37)) (Ye []);rw[hwp,hr];simpa using this
   have hbx:wp.heap[g1]?=some (.cells #[.string ⟨x.name.toArray⟩,.slice A1 x.params.length d1,.slice A2 x.bk9.length d2] 37 (0,0)):=by rw[hwp,hge];exact Zc (La wr _) _
   have hgp:(w.alloc (.cells z3 41)).grownBy wp none:=by rw[hwp];exact Zd (Zd hg.out _) _
   have Hsn:=hid hsn;have Hbx:=hid hbx;have Hgp:=hid hgp;have hpa:=hf.params;have hB2:=hf.bk9;clear hsn hbx hgp hwp hr hge hsz hne0 hbne e0 e1 e2;go_loopw [28] (fun s8 wi=>∃ kp:Nat,kp<=x.params.length/\s8=.int .i64 kp/\Hid ((w.alloc (.cells z3 41)).grownBy wi none)/\Hid (∀ j,j<kp->∀ y,x.params[j]?=some y->tvP k x.params j y=none)/\Hid (wi.heap[r]?=some (Ye (x.params.take kp)))/\Hid (wi.heap[g1]?=some (.cells #[.string ⟨x.name.toArray⟩,.slice A1 x.params.length d1,.slice A2 x.bk9.length d2] 37 (0,0)))) (fun s8 _=>x.params.length-(intOf s8).toNat)
   case atStart=>exact⟨0,Ln _,rfl,Hgp.out,Z2,Hsn.out,Hbx.out⟩
   case round=>
    obtain⟨kp,hklp,rfl,hgp2,hPp,hsp,hbxp⟩:=hrel;have hsz:=Xc hgp2.out;have hne0:w.heap.size≠wr.heap.size:=by omega
    have hblk:=Xu hgp2.out;have hb:=Yt hgp2.out
    by_cases hlp:kp<x.params.length
    ·obtain⟨s,bp,offp,hs,rfl,hbBp,hcs,hsl⟩:=hpa.at1 hlp;have hbp':bp<w.heap.size:=by omega
     replace hcs:=cur hb hbp' hcs;have Hs:=hid hs;have hlk:=J3 hsp.out s;clear hs hb;obtain⟨hb1,hb2⟩:=Za hblk;clear hblk
     cases hq:(x.params.take kp).contains s with
     |true=>
      have HP:=hid (show tvP k x.params kp s=some (k,0,0) by rw[tvP,if_pos hq]);rw[hq] at hlk;clear hq;go_wp2_with fail;refine bodyPost_ret (v:=ptV (some (k,0,0))) (by simp[results,Tryz.results121,go_sem,ptV,ptC,hb1,hsz,hne0]) rfl ⟨?_,?_⟩
      ·rw[Uv,Zo hP.out Hx.out (HFe.out.trans (by rw[Zo hPp.out Hs.out HP.out]))]
      ·repeat (first|exact Zt hgp2.out|apply Zd|refine Zg ?_ _|refine Zi ?_ (Lf _) _)
     |false=>
      have HP:=hid (show tvP k x.params kp s=none by rw[tvP,if_neg (by rw[hq];simp)]);rw[hq] at hlk;clear hq;go_wp2_with (at_mapUpdate;refine V6 rfl _ _ _ (.inl rfl) r (x.params.take kp) rfl hsp.out s rfl rfl ?_;intro w1 ht1 hs1);go_roundw
      case rel=>exact⟨kp+1,by omega,by go_num,ht1.grown hgp2.out (by simp;omega),Zw Hs.out hPp.out HP.out,by rw[Zha Hs.out];exact hs1,(ht1.block g1 hrg).trans hbxp.out⟩
      case measure=>simp[intOf];omega
    ·have HF:=hid (show tvF k x=Zq x.bk9 (tvB k x.params x.bk9) by rw[HFe.out,Zx (Z9 hlp hPp.out)]);have hkp:kp=x.params.length:=by omega
     have hsq:=hsp.out;rw[hkp,List.take_length] at hsq;have Hsq:=hid hsq;obtain⟨hy1,hy2⟩:=Za hbxp.out;have Hgw:=hid hgp2.out;clear hkp hsq hblk hb hsz hne0;go_wp2_with fail;clear hy1 hy2;go_loopw [43] (fun s8 wi=>∃ k2:Nat,k2<=x.bk9.length/\s8=.int .i64 k2/\Hid ((w.alloc (.cells z3 41)).grownBy wi none)/\Hid (∀ j,j<k2->∀ y,x.bk9[j]?=some y->tvB k x.params x.bk9 j y=none)/\Hid (wi.heap[r]?=some (Ye (x.params++Vb (x.bk9.take k2))))) (fun s8 _=>x.bk9.length-(intOf s8).toNat)
     case atStart=>exact⟨0,Ln _,rfl,Hgw.out,Z2,by simpa [Hid,Vb] using Hsq.out⟩
     case round=>
      obtain⟨k2,hkl2,rfl,hg2,hP2,hs2⟩:=hrel;have hsz:=Xc hg2.out;have hne0:w.heap.size≠wr.heap.size:=by omega
      have hblk:=Xu hg2.out;have hb:=Yt hg2.out
      by_cases hl2:k2<x.bk9.length
      ·obtain⟨y,b2,off2,hy,rfl,hbB2,hr2⟩:=hB2.at_ hl2;obtain⟨A3,d3,hf2,m3,e0,e1⟩:=Yg hr2;have hb2':b2<w.heap.size:=by omega
       have hbne2:b2≠wr.heap.size:=by omega
       replace e0:=cur hb hb2' e0;replace e1:=cur hb hb2' e1;have Hy:=hid hy;clear hy hr2 hb;have HB:=hid (show tvB k x.params x.bk9 k2 y=Zq y.code (tvC k k2 (x.params++Vb (x.bk9.take k2)) y.code) from rfl);have Hblk:=hid hblk;clear hblk;have Hs2:=hid (Zc hs2.out (.cells #[.string ⟨y.label.toArray⟩,.slice A3 y.code.length d3] 39));have hlt2:=Ze hs2.out;go_wp2_with fail;have hblk:=Hblk.out;obtain⟨wo2,hwo2⟩:∃ wo2:World,wo2=wr.alloc (.cells #[.string ⟨y.label.toArray⟩,.slice A3 y.code.length d3] 39):=⟨_,rfl⟩
       rw[<-hwo2];have hgo2:(w.alloc (.cells z3 41)).grownBy wo2 none:=by rw[hwo2];repeat (first|exact hg2.out|apply Zd)
       have Hgo2:=hid hgo2;have hB3:=hf2.code;rw[<-hwo2] at Hs2;clear hwo2 hgo2 e0 e1 hblk hsz hne0 hbne2;go_loopw [51] (fun s8 wi=>∃ k3:Nat,k3<=y.code.length/\s8=.int .i64 k3/\Hid ((w.alloc (.cells z3 41)).grownBy wi none)/\Hid (∀ j,j<k3->∀ z,y.code[j]?=some z->tvC k k2 (x.params++Vb (x.bk9.take k2)) y.code j z=none)/\Hid (wi.heap[r]?=some (Ye ((x.params++Vb (x.bk9.take k2))++Qd (y.code.take k3))))) (fun s8 _=>y.code.length-(intOf s8).toNat)
       case atStart=>exact⟨0,Ln _,rfl,Hgo2.out,Z2,by simpa [Hid,Qd] using Hs2.out⟩
       case round=>
        obtain⟨k3,hkl3,rfl,hg3,hP3,hs3⟩:=hrel;have hsz:=Xc hg3.out;have hne0:w.heap.size≠wr.heap.size:=by omega
        have hblk:=Xu hg3.out;have hb:=Yt hg3.out
        by_cases hl3:k3<y.code.length
        ·obtain⟨z,b3,off3,hz,rfl,hbB3,hr3⟩:=hB3.at_ hl3;obtain⟨A4,d4,A5,d5,hf3,m4,m5,e0,e1,e2,e3,e4,e5,e6,e7⟩:=Yw hr3;have hb3':b3<w.heap.size:=by omega
         have hbne3:b3≠wr.heap.size:=by omega
         replace e0:=cur hb hb3' e0;replace e1:=cur hb hb3' e1;replace e2:=cur hb hb3' e2;replace e3:=cur hb hb3' e3;replace e4:=cur hb hb3' e4;replace e5:=cur hb hb3' e5;replace e6:=cur hb hb3' e6;replace e7:=cur hb hb3' e7;have Hz:=hid hz;clear hz hr3 hb;obtain⟨hb1,hb2⟩:=Za hblk;clear hblk;have hlk:=fun o=>J3 (Zc hs3.out o) z.dst
         have hlt2:=Ze hs3.out;have hrne:r≠wr.heap.size:=by omega
         cases hd:z.dst.isEmpty with
         |true=>
          have HC:=hid (show tvC k k2 (x.params++Vb (x.bk9.take k2)) y.code k3 z=none by rw[tvC,if_neg (by simp[hd])]);clear hlk;go_wp2_with (at_mapUpdate;refine V6 rfl _ _ _ (.inl rfl) r ((x.params++Vb (x.bk9.take k2))++Qd (y.code.take k3)) rfl (Zc hs3.out _) z.dst rfl rfl ?_;intro w1 ht1 hs1);go_roundw
          case rel=>exact⟨k3+1,by omega,by go_num,ht1.grown (Zd hg3.out _) (by simp;omega),Zw Hz.out hP3.out HC.out,by rw[Zas Hz.out,<-List.append_assoc];exact hs1⟩
          case measure=>simp[intOf];omega
         |false=>
          cases hq:((x.params++Vb (x.bk9.take k2))++Qd (y.code.take k3)).contains z.dst with
          |true=>
           have HC:=hid (show tvC k k2 (x.params++Vb (x.bk9.take k2)) y.code k3 z=some (k,k2,k3) by rw[tvC,if_pos (by rw[hd,hq];rfl)]);rw[hq] at hlk;clear hq;go_wp2_with fail;refine bodyPost_ret (v:=ptV (some (k,k2,k3))) (by simp[results,Tryz.results121,go_sem,ptV,ptC,hb1,hsz,hne0]) rfl ⟨?_,?_⟩
           ·rw[Uv,Zo hP.out Hx.out (HF.out.trans (Zo hP2.out Hy.out (HB.out.trans (Zo hP3.out Hz.out HC.out))))]
           ·repeat (first|exact Zt hg3.out|apply Zd|refine Zg ?_ _|refine Zi ?_ (Lf _) _)
          |false=>
           have HC:=hid (show tvC k k2 (x.params++Vb (x.bk9.take k2)) y.code k3 z=none by rw[tvC,if_neg (by rw[hq];simp)]);rw[hq] at hlk;clear hq;go_wp2_with (at_mapUpdate;refine V6 rfl _ _ _ (.inl rfl) r ((x.params++Vb (x.bk9.take k2))++Qd (y.code.take k3)) rfl (Zc hs3.out _) z.dst rfl rfl ?_;intro w1 ht1 hs1);go_roundw
           case rel=>exact⟨k3+1,by omega,by go_num,ht1.grown (Zd hg3.out _) (by simp;omega),Zw Hz.out hP3.out HC.out,by rw[Zas Hz.out,<-List.append_assoc];exact hs1⟩
           case measure=>simp[intOf];omega
        ·have HBn:=hid (HB.out.trans (Zx (Z9 hl3 hP3.out)));clear hblk;go_wp2_with fail;go_roundw
         case rel=>exact⟨k2+1,by omega,by go_num,hg3.out,Zw Hy.out hP2.out HBn.out,by
          have hk3:k3=y.code.length:=by omega
          have:=hs3.out
          rw[hk3,List.take_length,List.append_assoc,<-Zfq Hy.out] at this
          exact this⟩
         case measure=>simp[intOf];omega
      ·have HFn:=hid (HF.out.trans (Zx (Z9 hl2 hP2.out)));clear hblk;go_wp2_with fail;go_roundw
       case rel=>exact⟨k+1,by omega,by go_num,hg2.out,Zw Hx.out hP.out HFn.out⟩
       case measure=>simp[intOf];omega
  ·obtain⟨hb1,hb2⟩:=Za hblk;go_wp2_with fail;refine bodyPost_ret (v:=ptV none) (by simp[results,Tryz.results121,go_sem,ptV,ptC,hb1]) rfl ⟨?_,?_⟩
   ·rw[Uv,Zx (Z9 hl hP.out)]
   ·repeat (first|exact Zt hg.out|apply Zd|refine Zg ?_ _|refine Zi ?_ (Lf _) _)
end
section
open Go.RowKit
theorem noVar_1 (l:List Str) (s:Str) (vb r:Nat) (w:World) (hc:w.cell? ⟨vb,0,none⟩=some (.map (some r))) (hr:w.heap[r]?=some (Ye l)):
  Calls Tryz.prog 176 #[.string ⟨s.toArray⟩,.pointer (some ⟨vb,0,none⟩)] w fun e w'=>e=.returned (.bool (!(l.contains s)))/\w=w':=by
 have hlk:=J3 hr s;clear hr;generalize l.contains s=q at hlk ⊢;go_enter Tryz.func176,Tryz.ntmps176;go_wp2;go_ret;exact⟨rfl,rfl⟩
theorem Zfu:∀ args w,(callFunc 176 args).run Tryz.prog w=.ok (.enter 176 args) w:=enters_of Tryz.func176 (by kernel_rfl) rfl
theorem Zvq (w:World) (e:TypeId) (u v:Value) (base:Nat) (hb:base<=w.heap.size):(w.alloc (.cells #[u,v] e)).ownsRow base e 1 (.slice (some ⟨w.heap.size,0,none⟩) 2 2) 2 [u,v]:=
 ⟨rfl,.inr ⟨w.heap.size,2,#[u,v],rfl,hb,La w _,Lf _,by unfold maxLen;omega,rfl,rfl⟩⟩
theorem Zoz (l:List Str) (va:Value) (args:List Str) (vb r:Nat) (w:World) (hc:w.cell? ⟨vb,0,none⟩=some (.map (some r))) (hr:w.heap[r]?=some (Ye l)) (hlt:vb<w.heap.size) (h:StrsAt w w.heap.size va args):
  Calls Tryz.prog 142 #[va,.func (.func 176) #[] #[.pointer (some ⟨vb,0,none⟩)]] w fun e w'=>e=.returned (.bool (args.any fun s=> !(l.contains s)))/\Below w.heap.size w w':=
 Xy va args 176 #[.pointer (some ⟨vb,0,none⟩)] w w.heap.size (fun s=> !(l.contains s)) (Lf _) h Zfu
  fun x W hb _=>(noVar_1 l x vb r W ((hb.cell (p:=⟨vb,0,none⟩) hlt).trans hc) ((hb.block r (Ze hr)).trans hr)).mono fun e w' ⟨he,hw⟩=>⟨he,hw▸hb⟩
theorem Zsw (p:GProg) (vp vm:Value) (B wb:Nat) (w:World) (hB:B<=w.heap.size) (h:WalkAt w B wb p vp vm):
  Calls Tryz.prog 122 #[.pointer (some ⟨wb,0,none⟩)] w fun e w'=>e=.returned (ptV (Zda p))/\w.grownBy w' none:=by
 obtain⟨A,c,rfl,hm,hlc,hcm,hA⟩:=h.prog.open_;have c0:=h.c0;have hlt:wb<w.heap.size:=by have:=h.lt;omega
 have hne:wb≠w.heap.size:=by omega
 clear h;go_enter Tryz.func122,Tryz.ntmps122;go_wp2;go_loopw [23] (fun s8 wr=>∃ k:Nat,k<=p.length/\s8=.int .i64 k/\Hid ((w.alloc (.cells z3 41)).grownBy wr none)/\Hid (∀ j,j<k->∀ y,p[j]?=some y->nvF j y=none)) (fun s8 _=>p.length-(intOf s8).toNat)
 case atStart=>exact⟨0,Ln _,rfl,Lb _ _,Z2⟩
 case round=>
  obtain⟨k,hkl,rfl,hg,hP⟩:=hrel;have hsz:=Xc hg.out;have hne0:w.heap.size≠wr.heap.size:=by omega
  have hblk:=Xu hg.out;have hb:=Yt hg.out
  by_cases hl:k<p.length
  ·obtain⟨x,b,off,hx,rfl,hbB,hr⟩:=hA.at_ hl;obtain⟨A1,d1,A2,d2,hf,m1,m2,e0,e1,e2⟩:=Yh hr;have hb':b<w.heap.size:=by omega
   have hbne:b≠wr.heap.size:=by omega
   replace e0:=cur hb hb' e0;replace e1:=cur hb hb' e1;replace e2:=cur hb hb' e2;have Hx:=hid hx;clear hx hr hb;have HF:=hid (show nvF k x=Zq x.bk9 (nvB (Xg x) k) from rfl);have Hblk:=hid hblk;clear hblk;have hmm:∀ w:World,(Instr.makeMap 213 none).run Tryz.prog w=.ok (.map (some w.heap.size)) (w.alloc (Z7 encS encB ([]:List (Str×Bool)))):=Kh
   go_wp2_with (first
                |(refine Vt rfl (.tmp 28) (.const (.string ⟨#[]⟩)) (.const (.bool true)) _ rfl (Zbr Tryz.underlying9) Tryz.underlying213 ([]:List (Str×Bool)) _ rfl (by simp) ([]:Str) true rfl rfl ?_)
                |(refine Vt rfl (.tmp 28) (.const (.string ⟨#[110,117,108,108]⟩)) (.const (.bool true)) _ rfl (Zbr Tryz.underlying9) Tryz.underlying213 (Yz ([]:List (Str×Bool)) ([]:Str) true) _ rfl (by simp) Q2 true rfl rfl ?_))
   clear hmm;obtain⟨g1,hge⟩:∃ g1,g1=wr.heap.size:=⟨_,rfl⟩
   obtain⟨r,hr⟩:∃ r,r=wr.heap.size+1:=⟨_,rfl⟩
   obtain⟨vb,hvb⟩:∃ vb,vb=wr.heap.size+1+1:=⟨_,rfl⟩
   rw[<-hvb,<-hr,<-hge];have hrs:w.heap.size<r:=by omega
   have hgs:w.heap.size<g1:=by omega
   have hrg:g1≠r:=by omega
   have hvr:vb≠r:=by omega
   have hvs:w.heap.size<vb:=by omega
   obtain⟨wp,hwp⟩:∃ wp:World,wp=((wr.alloc (.cells #[.string ⟨x.name.toArray⟩,.slice A1 x.params.length d1,.slice A2 x.bk9.length d2] 37)).alloc (Z7 encS encB (Yz (Yz ([]:List (Str×Bool)) ([]:Str) true) Q2 true))).alloc (.cells #[.map (some r)] 213):=⟨_,rfl⟩
   rw[<-hwp];have hsn:wp.heap[r]?=some (Ye ([]::Q2::[])):=by
    have:=La (wr.alloc (.cells #[.string ⟨x.name.toArray⟩,.slice A1 x.params.length d1,.slice A2 x.bk9.length d2] 37)) (Ye ([]::Q2::[]));rw[hwp,hr];refine Zc ?_ _;simpa [Ye,Zef] using this
   have hbx:wp.heap[g1]?=some (.cells #[.string ⟨x.name.toArray⟩,.slice A1 x.params.length d1,.slice A2 x.bk9.length d2] 37 (0,0)):=by rw[hwp,hge];exact Zc (Zc (La wr _) _) _
   have hvx:wp.heap[vb]?=some (.cells #[.map (some r)] 213 (0,0)):=by
    have:=La ((wr.alloc (.cells #[.string ⟨x.name.toArray⟩,.slice A1 x.params.length d1,.slice A2 x.bk9.length d2] 37)).alloc (Z7 encS encB (Yz (Yz ([]:List (Str×Bool)) ([]:Str) true) Q2 true))) (.cells #[.map (some r)] 213);rw[hwp,hvb];simpa using this
   have hgp:(w.alloc (.cells z3 41)).grownBy wp none:=by rw[hwp];exact Zd (Zd (Zd hg.out _) _) _
   have Hsn:=hid hsn;have Hbx:=hid hbx;have Hvx:=hid hvx;have Hgp:=hid hgp;have hpa:=hf.params;have hB2:=hf.bk9;clear hsn hbx hgp hwp hr hge hsz hne0 hbne e0 e1 e2 hvx hvb;go_loopw [33] (fun s8 wi=>∃ kp:Nat,kp<=x.params.length/\s8=.int .i64 kp/\Hid ((w.alloc (.cells z3 41)).grownBy wi none)/\Hid (wi.heap[r]?=some (Ye ([]::Q2::(x.params.take kp))))/\Hid (wi.heap[vb]?=some (.cells #[.map (some r)] 213 (0,0)))/\Hid (wi.heap[g1]?=wp.heap[g1]?)) (fun s8 _=>x.params.length-(intOf s8).toNat)
   case atStart=>exact⟨0,Ln _,rfl,Hgp.out,Hsn.out,Hvx.out,rfl⟩
   case round=>
    obtain⟨kp,hklp,rfl,hgp2,hsp,hvbp,hbxp⟩:=hrel;have hsz:=Xc hgp2.out;have hb:=Yt hgp2.out;obtain⟨hv1,hv2⟩:=Za hvbp.out
    by_cases hlp:kp<x.params.length
    ·obtain⟨s,bp,offp,hs,rfl,hbBp,hcs,hsl⟩:=hpa.at1 hlp;have hbp':bp<w.heap.size:=by omega
     replace hcs:=cur hb hbp' hcs;have Hs:=hid hs;clear hs hb;go_wp2_with (at_mapUpdate;refine V6 rfl _ _ _ (.inl rfl) r ([]::Q2::(x.params.take kp)) rfl (hsp.out) (s) rfl rfl ?_;intro w1 ht1 hs1);go_roundw
     case rel=>exact⟨kp+1,by omega,by go_num,ht1.grown hgp2.out (by simp;omega),by rw[Zha Hs.out];exact hs1,(ht1.block vb hvr).trans hvbp.out,(ht1.block g1 hrg).trans hbxp.out⟩
     case measure=>simp[intOf];omega
    ·have hkp:kp=x.params.length:=by omega
     have hsq:=hsp.out;rw[hkp,List.take_length] at hsq;have Hsq:=hid hsq;have Hvq:=hid hvbp.out;have Hbq:=hid hbxp.out;obtain⟨hy1,hy2⟩:=Za (hbxp.out.trans Hbx.out);have Hgw:=hid hgp2.out;clear hkp hsq hb hsz hv1 hv2;go_wp2_with fail;clear hy1 hy2;go_loopw [43] (fun s8 wi=>∃ k2:Nat,k2<=x.bk9.length/\s8=.int .i64 k2/\Hid ((w.alloc (.cells z3 41)).grownBy wi none)/\Hid (wi.heap[r]?=some (Ye ([]::Q2::(x.params++Vb (x.bk9.take k2)))))/\Hid (wi.heap[vb]?=some (.cells #[.map (some r)] 213 (0,0)))/\Hid (wi.heap[g1]?=wp.heap[g1]?)) (fun s8 _=>x.bk9.length-(intOf s8).toNat)
     case atStart=>exact⟨0,Ln _,rfl,Hgw.out,by simpa [Hid,Vb] using Hsq.out,Hvq.out,Hbq.out⟩
     case round=>
      obtain⟨k2,hkl2,rfl,hg2,hs2,hvb2,hbx2⟩:=hrel;have hsz:=Xc hg2.out;have hb:=Yt hg2.out
      by_cases hl2:k2<x.bk9.length
      ·obtain⟨y,b2,off2,hy,rfl,hbB2,hr2⟩:=hB2.at_ hl2;obtain⟨A3,d3,hf2,m3,e0,e1⟩:=Yg hr2;have hb2':b2<w.heap.size:=by omega
       have hbne2:b2≠wr.heap.size:=by omega
       replace e0:=cur hb hb2' e0;replace e1:=cur hb hb2' e1;have Hy:=hid hy;have Hs2:=hid (Zc hs2.out (.cells #[.string ⟨y.label.toArray⟩,.slice A3 y.code.length d3] 39));have Hv2:=hid (Zc hvb2.out (.cells #[.string ⟨y.label.toArray⟩,.slice A3 y.code.length d3] 39));have Hb2:=hid ((Below.heap_alloc wr (.cells #[.string ⟨y.label.toArray⟩,.slice A3 y.code.length d3] 39) g1 (Ze (hbx2.out.trans Hbx.out))).trans hbx2.out);have Hg2:=hid (Zd hg2.out (.cells #[.string ⟨y.label.toArray⟩,.slice A3 y.code.length d3] 39));clear hy hr2 hb;go_wp2_with fail;obtain⟨wo2,hwo2⟩:∃ wo2:World,wo2=wr.alloc (.cells #[.string ⟨y.label.toArray⟩,.slice A3 y.code.length d3] 39):=⟨_,rfl⟩
       rw[<-hwo2] at Hs2 Hv2 Hb2 Hg2 ⊢;have hB3:=hf2.code;clear hwo2 e0 e1 hsz hbne2;go_loopw [50] (fun s8 wi=>∃ k3:Nat,k3<=y.code.length/\s8=.int .i64 k3/\Hid ((w.alloc (.cells z3 41)).grownBy wi none)/\Hid (wi.heap[r]?=some (Ye ([]::Q2::(x.params++Vb (x.bk9.take k2)++Qd (y.code.take k3)))))/\Hid (wi.heap[vb]?=some (.cells #[.map (some r)] 213 (0,0)))/\Hid (wi.heap[g1]?=wp.heap[g1]?)) (fun s8 _=>y.code.length-(intOf s8).toNat)
       case atStart=>exact⟨0,Ln _,rfl,Hg2.out,by simpa [Hid,Qd] using Hs2.out,Hv2.out,Hb2.out⟩
       case round=>
        obtain⟨k3,hkl3,rfl,hg3,hs3,hvb3,hbx3⟩:=hrel;have hsz:=Xc hg3.out;have hb:=Yt hg3.out
        by_cases hl3:k3<y.code.length
        ·obtain⟨z,b3,off3,hz,rfl,hbB3,hr3⟩:=hB3.at_ hl3;obtain⟨A4,d4,A5,d5,hf3,m4,m5,e0,e1,e2,e3,e4,e5,e6,e7⟩:=Yw hr3;have hb3':b3<w.heap.size:=by omega
         have hbne3:b3≠wr.heap.size:=by omega
         replace e0:=cur hb hb3' e0;replace e1:=cur hb hb3' e1;replace e2:=cur hb hb3' e2;replace e3:=cur hb hb3' e3;replace e4:=cur hb hb3' e4;replace e5:=cur hb hb3' e5;replace e6:=cur hb hb3' e6;replace e7:=cur hb hb3' e7;have Hz:=hid hz;have hvl:=Ze hvb3.out;have hrl:=Ze hs3.out;have hvn:vb≠wr.heap.size:=by omega
         have hrn:r≠wr.heap.size:=by omega
         obtain⟨hv1,hv2⟩:=Za hvb3.out;clear hz hr3 hb;go_wp2_with (at_mapUpdate;refine V6 rfl _ _ _ (.inl rfl) r ([]::Q2::(x.params++Vb (x.bk9.take k2)++Qd (y.code.take k3))) rfl (Zc hs3.out _) (z.dst) rfl rfl ?_;intro w1 ht1 hs1);go_roundw
         case rel=>exact⟨k3+1,by omega,by go_num,ht1.grown (Zd hg3.out _) (by simp;omega),by rw[Zas Hz.out,<-List.append_assoc];exact hs1,(ht1.block vb hvr).trans (Zc hvb3.out _),(ht1.block g1 hrg).trans ((Below.heap_alloc wr _ g1 (Ze (hbx3.out.trans Hbx.out))).trans hbx3.out)⟩
         case measure=>simp[intOf];omega
        ·go_wp2_with fail;go_roundw
         case rel=>exact⟨k2+1,by omega,by go_num,hg3.out,by
          have hk3:k3=y.code.length:=by omega
          have h9:=hs3.out
          rw[hk3,List.take_length,List.append_assoc,<-Zfq Hy.out] at h9
          exact h9,hvb3.out,hbx3.out⟩
         case measure=>simp[intOf];omega
      ·have hkp:k2=x.bk9.length:=by omega
       have hsq:=hs2.out;rw[hkp,List.take_length] at hsq;have Hsq:=hid (show wr.heap[r]?=some (Ye (Xg x)) from hsq);have Hvq:=hid hvb2.out;obtain⟨hy1,hy2⟩:=Za (hbx2.out.trans Hbx.out);have Hgw:=hid hg2.out;clear hkp hsq hb hsz;go_wp2_with fail;clear hy1 hy2;go_loopw [62] (fun s8 wi=>∃ k2:Nat,k2<=x.bk9.length/\s8=.int .i64 k2/\Hid ((w.alloc (.cells z3 41)).grownBy wi none)/\Hid (∀ j,j<k2->∀ y,x.bk9[j]?=some y->nvB (Xg x) k j y=none)/\Hid (wi.heap[r]?=some (Ye (Xg x)))/\Hid (wi.heap[vb]?=some (.cells #[.map (some r)] 213 (0,0)))) (fun s8 _=>x.bk9.length-(intOf s8).toNat)
       case atStart=>exact⟨0,Ln _,rfl,Hgw.out,Z2,Hsq.out,Hvq.out⟩
       case round=>
        obtain⟨k2,hkl2,rfl,hg2,hP2,hs2,hvb2⟩:=hrel;have hsz:=Xc hg2.out;have hne0:w.heap.size≠wr.heap.size:=by omega
        have hblk:=Xu hg2.out;have hb:=Yt hg2.out
        by_cases hl2:k2<x.bk9.length
        ·obtain⟨y,b2,off2,hy,rfl,hbB2,hr2⟩:=hB2.at_ hl2;obtain⟨A3,d3,hf2,m3,e0,e1⟩:=Yg hr2;have hb2':b2<w.heap.size:=by omega
         have hbne2:b2≠wr.heap.size:=by omega
         replace e0:=cur hb hb2' e0;replace e1:=cur hb hb2' e1;have Hy:=hid hy;clear hy hr2 hb;have HB:=hid (show nvB (Xg x) k k2 y=Zq y.code (nvC (Xg x) k k2) from rfl);have Hblk:=hid hblk;clear hblk;have Hs2:=hid (Zc hs2.out (.cells #[.string ⟨y.label.toArray⟩,.slice A3 y.code.length d3] 39));have Hv2:=hid (Zc hvb2.out (.cells #[.string ⟨y.label.toArray⟩,.slice A3 y.code.length d3] 39));go_wp2_with fail;have hblk:=Hblk.out;obtain⟨wo2,hwo2⟩:∃ wo2:World,wo2=wr.alloc (.cells #[.string ⟨y.label.toArray⟩,.slice A3 y.code.length d3] 39):=⟨_,rfl⟩
         rw[<-hwo2];have hgo2:(w.alloc (.cells z3 41)).grownBy wo2 none:=by rw[hwo2];repeat (first|exact hg2.out|apply Zd)
         have Hgo2:=hid hgo2;have hB3:=hf2.code;rw[<-hwo2] at Hs2 Hv2;clear hwo2 hgo2 e0 e1 hblk hsz hne0 hbne2;go_loopw [70] (fun s8 wi=>∃ k3:Nat,k3<=y.code.length/\s8=.int .i64 k3/\Hid ((w.alloc (.cells z3 41)).grownBy wi none)/\Hid (∀ j,j<k3->∀ z,y.code[j]?=some z->nvC (Xg x) k k2 j z=none)/\Hid (wi.heap[r]?=some (Ye (Xg x)))/\Hid (wi.heap[vb]?=some (.cells #[.map (some r)] 213 (0,0)))) (fun s8 _=>y.code.length-(intOf s8).toNat)
         case atStart=>exact⟨0,Ln _,rfl,Hgo2.out,Z2,Hs2.out,Hv2.out⟩
         case round=>
          obtain⟨k3,hkl3,rfl,hg3,hP3,hs3,hvb3⟩:=hrel;have hsz:=Xc hg3.out;have hne0:w.heap.size≠wr.heap.size:=by omega
          have hblk:=Xu hg3.out;have hb:=Yt hg3.out
          by_cases hl3:k3<y.code.length
          ·obtain⟨z,b3,off3,hz,rfl,hbB3,hr3⟩:=hB3.at_ hl3;obtain⟨A4,d4,A5,d5,hf3,m4,m5,e0,e1,e2,e3,e4,e5,e6,e7⟩:=Yw hr3;have hb3':b3<w.heap.size:=by omega
           have hbne3:b3≠wr.heap.size:=by omega
           replace e0:=cur hb hb3' e0;replace e1:=cur hb hb3' e1;replace e2:=cur hb hb3' e2;replace e3:=cur hb hb3' e3;replace e4:=cur hb hb3' e4;replace e5:=cur hb hb3' e5;replace e6:=cur hb hb3' e6;replace e7:=cur hb hb3' e7;have Hz:=hid hz;clear hz hr3;have hvl:=Ze hvb3.out;have hrl:=Ze hs3.out;have hargs:∀ o1,StrsAt ((wr.alloc (.cells #[.int .u8 z.op,.string ⟨z.dst.toArray⟩,.string ⟨z.a.toArray⟩,.string ⟨z.b.toArray⟩,.int .i64 z.n,.string ⟨z.fn.toArray⟩,.slice A4 z.args.length d4,.slice A5 z.lb9.length d5] 25)).alloc o1) B (.slice A4 z.args.length d4) z.args:=fun o1=>hf3.args.below strR.keeps ((hb.alloc hb.size _).alloc (by have:=hb.size;simp;omega) _) hB
           have hgA:(wr.alloc (.cells #[.int .u8 z.op,.string ⟨z.dst.toArray⟩,.string ⟨z.a.toArray⟩,.string ⟨z.b.toArray⟩,.int .i64 z.n,.string ⟨z.fn.toArray⟩,.slice A4 z.args.length d4,.slice A5 z.lb9.length d5] 25)).heap.size=wr.heap.size+1:=by simp
           have hcall:∀ v1 w1,World.ownsRow w1 wr.heap.size 9 1 v1 ([z.a,z.b]++z.args).length (([z.a,z.b]++z.args).map encS)->World.grownBy ((wr.alloc (.cells #[.int .u8 z.op,.string ⟨z.dst.toArray⟩,.string ⟨z.a.toArray⟩,.string ⟨z.b.toArray⟩,.int .i64 z.n,.string ⟨z.fn.toArray⟩,.slice A4 z.args.length d4,.slice A5 z.lb9.length d5] 25)).alloc (.cells #[.string ⟨z.a.toArray⟩,.string ⟨z.b.toArray⟩] 9)) w1 (Value.ownBlock (.slice (some ⟨wr.heap.size+1,0,none⟩) 2 2))->
             Calls Tryz.prog 142 #[v1,.func (.func 176) #[] #[.pointer (some ⟨vb,0,none⟩)]] w1 fun e w'=>e=.returned (.bool (([z.a,z.b]++z.args).any fun s=> !((Xg x).contains s)))/\Below w1.heap.size w1 w':=by
            intro v1 w1 hown1 hg1;have hsz1:=hg1.size;simp only[World.size_alloc] at hsz1;have hk:∀ i,i<wr.heap.size->w1.heap[i]?=wr.heap[i]?:=fun i hi=>
             (hg1.block i (by simp;omega) (by simp[Value.ownBlock];omega)).trans ((Below.heap_alloc _ _ i (by simp;omega)).trans (Below.heap_alloc wr _ i hi))
            refine Zoz (Xg x) v1 _ vb r w1 ?_ ((hk r hrl).trans hs3.out) (by omega) (Qa hown1 ?_)
            ·exact (Lj (w:=wr) (hk vb hvl)).trans ((Za hvb3.out).1 0)
            ·intro s hs;have ha:=hf3.a;have hbq:=hf3.b;obtain⟨A9,c9,_,_,_,_,hA9⟩:=hf3.args.open_;simp only[List.cons_append,List.nil_append,List.mem_cons] at hs
             rcases hs with rfl|rfl|hs
             ·exact ha
             ·exact hbq
             ·obtain⟨j,hj,rfl⟩:=List.getElem_of_mem hs;obtain⟨s',_,_,hs',_,_,hr'⟩:=hA9.at1 hj;rw[List.getElem?_eq_getElem hj] at hs'
              cases hs'
              exact hr'.2
           have hblk3:∀ (v1:Value) (w1 w2:World),World.grownBy ((wr.alloc (.cells #[.int .u8 z.op,.string ⟨z.dst.toArray⟩,.string ⟨z.a.toArray⟩,.string ⟨z.b.toArray⟩,.int .i64 z.n,.string ⟨z.fn.toArray⟩,.slice A4 z.args.length d4,.slice A5 z.lb9.length d5] 25)).alloc (.cells #[.string ⟨z.a.toArray⟩,.string ⟨z.b.toArray⟩] 9)) w1 (Value.ownBlock (.slice (some ⟨wr.heap.size+1,0,none⟩) 2 2))->Below w1.heap.size w1 w2->w2.heap[w.heap.size]?=some (.cells z3 41 (0,0)):=fun v1 w1 w2 hg1 hb9=>
            (hb9.block _ (by have:=hg1.size;simp at this;omega)).trans ((hg1.block _ (by simp;omega) (by simp[Value.ownBlock];omega)).trans ((Below.heap_alloc _ _ _ (by simp;omega)).trans ((Below.heap_alloc wr _ _ hsz).trans hblk)))
           have hgend:∀ (v1:Value) (w1 w2:World),World.grownBy ((wr.alloc (.cells #[.int .u8 z.op,.string ⟨z.dst.toArray⟩,.string ⟨z.a.toArray⟩,.string ⟨z.b.toArray⟩,.int .i64 z.n,.string ⟨z.fn.toArray⟩,.slice A4 z.args.length d4,.slice A5 z.lb9.length d5] 25)).alloc (.cells #[.string ⟨z.a.toArray⟩,.string ⟨z.b.toArray⟩] 9)) w1 (Value.ownBlock (.slice (some ⟨wr.heap.size+1,0,none⟩) 2 2))->Below w1.heap.size w1 w2->(w.alloc (.cells z3 41)).grownBy w2 none/\w2.heap[r]?=some (Ye (Xg x))/\w2.heap[vb]?=some (.cells #[.map (some r)] 213 (0,0)):=fun v1 w1 w2 hg1 hb9=>by
            have hsz1:=hg1.size;simp only[World.size_alloc] at hsz1;have hk:∀ i,i<wr.heap.size->w2.heap[i]?=wr.heap[i]?:=fun i hi=>
             (hb9.block i (by omega)).trans ((hg1.block i (by simp;omega) (by simp[Value.ownBlock];omega)).trans ((Below.heap_alloc _ _ i (by simp;omega)).trans (Below.heap_alloc wr _ i hi)))
            have h0:=hg3.out;have hs0:=h0.size;refine⟨⟨hb9.os.trans (hg1.os.trans h0.os),hb9.tape.trans (hg1.tape.trans h0.tape),hb9.output.trans (hg1.output.trans h0.output),Nat.le_trans hs0 (by have:=hb9.size;omega),fun i hi hne=>(hk i (by omega)).trans (h0.block i hi hne)⟩,(hk r hrl).trans hs3.out,(hk vb hvl).trans hvb3.out⟩
           have hown0:World.ownsRow ((wr.alloc (.cells #[.int .u8 z.op,.string ⟨z.dst.toArray⟩,.string ⟨z.a.toArray⟩,.string ⟨z.b.toArray⟩,.int .i64 z.n,.string ⟨z.fn.toArray⟩,.slice A4 z.args.length d4,.slice A5 z.lb9.length d5] 25)).alloc (.cells #[.string ⟨z.a.toArray⟩,.string ⟨z.b.toArray⟩] 9)) wr.heap.size 9 1 (.slice (some ⟨wr.heap.size+1,0,none⟩) 2 2) ([z.a,z.b]:List Str).length (([z.a,z.b]:List Str).map encS):=by
            simpa [encS] using Zvq (wr.alloc (.cells #[.int .u8 z.op,.string ⟨z.dst.toArray⟩,.string ⟨z.a.toArray⟩,.string ⟨z.b.toArray⟩,.int .i64 z.n,.string ⟨z.fn.toArray⟩,.slice A4 z.args.length d4,.slice A5 z.lb9.length d5] 25)) 9 (encS z.a) (encS z.b) wr.heap.size (by simp)
           have hl0:(([z.a,z.b]:List Str).length+z.args.length)*16<=140737488355328:=by have:=hf3.argsLe;simp;omega
           have Hcall:=hid hcall;have Hblk3:=hid hblk3;have Hgend:=hid hgend;have Hargs:=hid hargs;clear hblk hb hgA hcall hblk3 hgend hargs;have hvn:vb≠wr.heap.size:=by omega
           cases hq:(z.a::z.b::z.args).any fun s=> !((Xg x).contains s) with
           |true=>
            have HC:=hid (show nvC (Xg x) k k2 k3 z=some (k,k2,k3) by rw[nvC,if_pos hq]);have hcall:=Hcall.out;have hblk3:=Hblk3.out;have hargs:=Hargs.out;simp only[List.cons_append,List.nil_append] at hcall;rw[hq] at hcall;clear hq
            go_wp2_with (first
                         |(at_builtin;refine Un rfl (.tmp 79) (.tmp 81) rfl wr.heap.size (.slice (some ⟨wr.heap.size+1,0,none⟩) 2 2) [z.a,z.b] rfl hown0 B (.slice A4 z.args.length d4) z.args rfl (hargs _) hl0 (by simp;omega) ?_;intro v1 w1 hown1 hg1 hat1)
                         |(go_at_call 142;refine (hcall v1 w1 hown1 hg1).mono ?_;rintro e w2 ⟨rfl,hb9⟩;obtain⟨hb1,hb2⟩:=Za (hblk3 v1 w1 w2 hg1 hb9)))
            refine bodyPost_ret (v:=ptV (some (k,k2,k3))) (by simp[results,Tryz.results122,go_sem,ptV,ptC,hb1,hsz,hne0]) rfl ⟨?_,?_⟩
            ·rw[Zda,Zo hP.out Hx.out (HF.out.trans (Zo hP2.out Hy.out (HB.out.trans (Zo hP3.out Hz.out HC.out))))]
            ·have h9:=(Hgend.out v1 w1 w2 hg1 hb9).1
             repeat (first|exact Zt h9|refine Zi ?_ (Lf _) _)
           |false=>
            have HC:=hid (show nvC (Xg x) k k2 k3 z=none by rw[nvC,if_neg (by rw[hq];simp)]);have hcall:=Hcall.out;have hblk3:=Hblk3.out;have hargs:=Hargs.out;simp only[List.cons_append,List.nil_append] at hcall;rw[hq] at hcall;clear hq
            go_wp2_with (first
                         |(at_builtin;refine Un rfl (.tmp 79) (.tmp 81) rfl wr.heap.size (.slice (some ⟨wr.heap.size+1,0,none⟩) 2 2) [z.a,z.b] rfl hown0 B (.slice A4 z.args.length d4) z.args rfl (hargs _) hl0 (by simp;omega) ?_;intro v1 w1 hown1 hg1 hat1)
                         |(go_at_call 142;refine (hcall v1 w1 hown1 hg1).mono ?_;rintro e w2 ⟨rfl,hb9⟩;obtain⟨hb1,hb2⟩:=Za (hblk3 v1 w1 w2 hg1 hb9)))
            go_roundw
            case rel=>exact⟨k3+1,by omega,by go_num,(Hgend.out v1 w1 w2 hg1 hb9).1,Zw Hz.out hP3.out HC.out,(Hgend.out v1 w1 w2 hg1 hb9).2.1,(Hgend.out v1 w1 w2 hg1 hb9).2.2⟩
            case measure=>simp[intOf];omega
          ·have HBn:=hid (HB.out.trans (Zx (Z9 hl3 hP3.out)));clear hblk;go_wp2_with fail;go_roundw
           case rel=>exact⟨k2+1,by omega,by go_num,hg3.out,Zw Hy.out hP2.out HBn.out,hs3.out,hvb3.out⟩
           case measure=>simp[intOf];omega
        ·have HFn:=hid (HF.out.trans (Zx (Z9 hl2 hP2.out)));clear hblk;go_wp2_with fail;go_roundw
         case rel=>exact⟨k+1,by omega,by go_num,hg2.out,Zw Hx.out hP.out HFn.out⟩
         case measure=>simp[intOf];omega
  ·obtain⟨hb1,hb2⟩:=Za hblk;go_wp2_with fail;refine bodyPost_ret (v:=ptV none) (by simp[results,Tryz.results122,go_sem,ptV,ptC,hb1]) rfl ⟨?_,?_⟩
   ·rw[Zda,Zx (Z9 hl hP.out)]
   ·repeat (first|exact Zt hg.out|apply Zd|refine Zg ?_ _|refine Zi ?_ (Lf _) _)
end

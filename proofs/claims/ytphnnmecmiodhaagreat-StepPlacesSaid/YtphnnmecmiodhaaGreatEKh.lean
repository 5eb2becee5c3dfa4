/- The head of a law of layer 14. Conditions in it. -/
import Derived.Test.YtphnnmecmiodhaaGreatESl2
set_option maxHeartbeats 4000000
set_option maxRecDepth 100000
set_option linter.all false
namespace Go.Proofs.YtphnnmecmiodhaaGreat
open Lib(hid)
section
open Go.RowKit Go.Shelf
structure LwHd (p:GProg) (w W:World) (B:Nat) (A:Option Addr) (c:Nat):Prop where
 grown:w.grownBy W none
 cell:∀ W',W.grownBy W' none->W'.cell? ⟨w.heap.size,0,none⟩=some (.slice A p.length c)
 prog:∀ W',W.grownBy W' none->ProgAt W' B (.slice A p.length c) p
 le:∀ W',W.grownBy W' none->B<=W'.heap.size
theorem Zqk {p:GProg} {w:World} {B:Nat} {A:Option Addr} {c:Nat} (hB:B<=w.heap.size) (h:ProgAt w B (.slice A p.length c) p):LwHd p w (w.alloc (.cells #[.slice A p.length c] 47)) B A c:=by
 have hb:(w.alloc (.cells #[.slice A p.length c] 47)).heap[w.heap.size]?=some (.cells #[.slice A p.length c] 47 (0,0)):=La _ _;have hg:w.grownBy (w.alloc (.cells #[.slice A p.length c] 47)) none:=Lc _ _ _;exact⟨hg,fun W' hg'=>(Lj (hg'.block w.heap.size (Ze hb) (by simp))).trans ((Za hb).1 0),fun W' hg'=>h.below funR.keeps (Zk (Zb hg hg')) hB,fun W' hg'=>by have:=hg.size;have:=hg'.size;omega⟩
theorem TwoI.grown {p:GProg} {w0 wS:World} {loS ms:Nat} {wB:Bs} {vp:Value} {W:World} {g:SAd} {s:GM} (h:TwoI p w0 wS loS wB ms vp W g s):w0.grownBy W none:=h.base.all fun n h1 h2=>by omega
end
section
open Go.RowKit Go.Shelf
theorem Zpm {α:Type} {R:Rdr α} {sz:Nat} {w:World} {B b n:Nat} {l:List α} (hn:n=l.length) (hm:n<=65536) (hb:b<B) (h:∀ k x,l[k]?=some x->R w B b (k*sz) x):SlAt R sz w B (.slice (some ⟨b,0,none⟩) n n) l:=by
 subst hn;exact⟨_,_,rfl,Lf _,by unfold maxLen;omega,fun k x hx=>⟨b,0,rfl,hb,by rw[Nat.zero_add];exact h k x hx⟩⟩
theorem Zfz {α:Type} {P:Nat->α->Prop}:∀ k x,([]:List α)[k]?=some x->P k x:=fun k x h=>by simp at h
theorem V8 {α:Type} {P:Nat->α->Prop} {a:α} {l:List α} (h:P 0 a) (t:∀ k x,l[k]?=some x->P (k+1) x):∀ k x,(a::l)[k]?=some x->P k x:=by
 intro k x hx
 cases k with
 |zero=>simp only[List.getElem?_cons_zero,Option.some.injEq] at hx;exact hx▸h
 |succ k=>exact t k x (by simpa using hx)
end
section
open Go.RowKit Go.Shelf
theorem Yef (p:GProg) (vp:Value) (w:World) (B:Nat) (hB:B<=w.heap.size) (h:ProgAt w B vp p):Calls Tryz.prog 52 #[.agg #[vp]] w fun e w'=>∃ b,e=.returned (.bool b)/\w.grownBy w' none:=by
 obtain⟨A,c,rfl,m1,m2,m3,hA⟩:=h.open_;obtain⟨W,hW⟩:∃ W:World,W=w.alloc (.cells #[.slice A p.length c] 47):=⟨_,rfl⟩
 have hgW:w.grownBy W none:=by rw[hW];exact Lc _ _ _
 have hb:W.heap[w.heap.size]?=some (.cells #[.slice A p.length c] 47 (0,0)):=by rw[hW];exact La _ _
 have HS:=hid (show ∀ W',W.grownBy W' none->W'.cell? ⟨w.heap.size,0,none⟩=some (.slice A p.length c) from fun W' hg=>(Lj (hg.block w.heap.size (Ze hb) (by simp))).trans ((Za hb).1 0));have HgW:=hid hgW;have HA:=hid hA;have hc:=HS.out W (Lb _ _);clear hb hgW hA h;go_enter Tryz.func52,Tryz.ntmps52;go_upto_region 1 with (fail)
 rw[<-hW];clear hW
 by_cases h6:(6:Int)<p.length
 ·go_wp2;go_ret;exact⟨_,rfl,HgW.out⟩
 ·go_wp2;clear hc;go_loopw [3,4] (fun s3 s4 wr=>∃ (z:Int) (i:Nat),i<=p.length/\s3=.int .i64 z/\s4=.int .i64 i/\Hid (W.grownBy wr none)) (fun _ s4 _=>p.length-(intOf s4).toNat)
  case atStart=>exact⟨0,0,Ln _,rfl,rfl,Lb _ _⟩
  case round=>
   obtain⟨z,i,hi,rfl,rfl,hg⟩:=hrel;have hc:=HS.out wr hg.out
   by_cases hil:i<p.length
   ·obtain⟨x,b,off,hx,rfl,hbB,hr⟩:=HA.out.at_ hil;obtain⟨A1,d1,A2,d2,hf,n1,n2,e0,e1,e2⟩:=Yh hr;have hbw:b<w.heap.size:=by omega
    have hlow:=Zk (Zb HgW.out hg.out)
    have HF:=hid (show ∀ W',wr.grownBy W' none->W'.cell? ⟨w.heap.size,0,none⟩=some (.slice (some ⟨b,off,none⟩) p.length c)/\W'.cell? ⟨b,off+i*3+1,none⟩=some (.slice A1 x.params.length d1)/\W'.cell? ⟨b,off+i*3+2,none⟩=some (.slice A2 x.bk9.length d2) from fun W' hg'=>by
     have hb':=Zk (Zb HgW.out (Zb hg.out hg'))
     exact⟨HS.out W' (Zb hg.out hg'),cur hb' hbw e1,cur hb' hbw e2⟩)
    obtain⟨k0,k1,k2⟩:=HF.out wr (Lb _ _);have HBl:=hid hf.bk9;have Hx:=hid hx;clear hx hr hf e0 e1 e2 hlow hc
    by_cases hbl:(20:Int)<x.bk9.length
    ·go_wp2;go_ret
     first|exact⟨_,rfl,Zb HgW.out hg.out⟩|exact⟨.inl rfl,Zb HgW.out hg.out⟩|exact⟨.inr rfl,Zb HgW.out hg.out⟩
    ·by_cases hpl:(20:Int)<x.params.length
     ·go_wp2;go_ret
      first|exact⟨_,rfl,Zb HgW.out hg.out⟩|exact⟨.inl rfl,Zb HgW.out hg.out⟩|exact⟨.inr rfl,Zb HgW.out hg.out⟩
     ·go_wp2;clear k0 k1 k2;go_loopw [3,5] (fun s3 s5 wi=>∃ (z:Int) (k:Nat),k<=x.bk9.length/\s3=.int .i64 z/\s5=.int .i64 k/\Hid (wr.grownBy wi none)) (fun _ s5 _=>x.bk9.length-(intOf s5).toNat)
      case atStart=>exact⟨z,0,Ln _,rfl,rfl,Lb _ _⟩
      case round=>
       obtain⟨z2,k,hk,rfl,rfl,hg2⟩:=hrel;obtain⟨k0,k1,k2⟩:=HF.out wr hg2.out
       by_cases hkl:k<x.bk9.length
       ·obtain⟨y,b4,off4,hy,rfl,hb4,hby⟩:=HBl.out.at_ hkl;obtain⟨vc,hyb,y0,y1⟩:=hby;obtain⟨A5,d5,rfl,o1,o2,o3,-⟩:=hyb.code.open_;have y1':=cur (Zk (Zb HgW.out (Zb hg.out hg2.out))) (show b4<w.heap.size by omega) y1;clear hy y0 y1 hyb;go_wp2;go_roundw
        case rel=>exact⟨_,k+1,by omega,rfl,by go_num,hg2.out⟩
        case measure=>simp[intOf];omega
       ·obtain rfl:k=x.bk9.length:=by omega
        go_wp2;go_roundw
        case rel=>exact⟨_,i+1,by omega,rfl,by go_num,Zb hg.out hg2.out⟩
        case measure=>simp[intOf];omega
   ·obtain rfl:i=p.length:=by omega
    go_wp2;go_ret
    first|exact⟨_,rfl,Zb HgW.out hg.out⟩|exact⟨.inl rfl,Zb HgW.out hg.out⟩|exact⟨.inr rfl,Zb HgW.out hg.out⟩
end

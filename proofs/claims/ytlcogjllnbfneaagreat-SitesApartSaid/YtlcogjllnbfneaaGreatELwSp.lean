/- gnomonlaw12. Conditions in it. -/
import Derived.Test.YtlcogjllnbfneaaGreatESpo
set_option maxHeartbeats 8000000
set_option maxRecDepth 100000
set_option linter.all false
namespace Go.Proofs.YtlcogjllnbfneaaGreat
open Lib(hid)
open Go.RowKit Go.Shelf
theorem SpW.zero {lo:Nat} {W0 w wr:World} (h:SpW lo W0 w wr) {g j:Nat} {cur:Array Value} (hg:W0.heap[g]?=some (.cells cur 25 (0,0))) (hlo:lo<=g) (a b c d e f k:Value):
  SpW lo W0 w (Zqu wr g (j*8) a b c d e f (.slice none 0 0) k):=by
 unfold Zqu;have q:∀ {x:World} (r:Nat) (u:Value),r<8->(r=6->u=.slice none 0 0)->SpW lo W0 w x->SpW lo W0 w (x.setCell ⟨g,j*8+r,none⟩ u):=fun r u hr h6 hx=>hx.set hg hlo u (by decide) (fun e=>absurd e (by decide)) (fun _ hm=>h6 (by omega))
 exact q 7 k (by omega) (by omega) (q 6 _ (by omega) (fun _=>rfl) (q 5 f (by omega) (by omega) (q 4 e (by omega) (by omega) (q 3 d (by omega) (by omega) (q 2 c (by omega) (by omega) (q 1 b (by omega) (by omega) (q 0 a (by omega) (by omega) h)))))))
theorem Yjb {lo:Nat} {W0 w:World} {p:GProg} {v:Value} (h:ProgT lo W0 p v) (hg0:W0.grownBy w none):
  Calls Tryz.prog 19 #[.agg #[v]] w fun e w'=>e=.returned (.tuple #[])/\Chg (fun n=>lo<=n/\n<W0.heap.size) w w':=by
 obtain⟨G,c,rfl,hG,hc1,hc2,hrow⟩:=h;unfold maxLen at hc2;obtain⟨W,hW⟩:∃ W:World,W=w.alloc (.cells #[.slice (some ⟨G,0,none⟩) p.length c] 47):=⟨_,rfl⟩
 have hgW:w.grownBy W none:=by rw[hW];exact Lc _ _ _
 have hb:W.heap[w.heap.size]?=some (.cells #[.slice (some ⟨G,0,none⟩) p.length c] 47 (0,0)):=by rw[hW];exact La _ _
 have hs0:=hg0.size;have hS0:=SpW.start lo (Zb hg0 hgW);have HS0:=hid hS0;have HB:=hid (show ∀ W',SpW lo W0 W W'->W'.cell? ⟨w.heap.size,0,none⟩=some (.slice (some ⟨G,0,none⟩) p.length c) from fun W' h=>(Lj (h.chg.block w.heap.size (Ze hb) (by omega))).trans ((Za hb).1 0));have HgW:=hid hgW;have Hrow:=hid hrow;clear hb hgW hrow hS0 hg0 hs0;go_enter Tryz.func19,Tryz.ntmps19;go_upto_region 1 with (fail)
 rw[<-hW];clear hW;go_wp2_with fail;go_loopw [2] (fun s2 wr=>∃ i:Nat,i<=p.length/\s2=.int .i64 i/\Hid (SpW lo W0 W wr)) (fun s2 _=>p.length-(intOf s2).toNat)
 case atStart=>exact⟨0,Ln _,rfl,HS0⟩
 case round=>
  obtain⟨i,hi,rfl,hS⟩:=hrel;clear HS0;have b0:=HB.out wr hS.out
  by_cases hil:i<p.length
  ·obtain⟨f,hf⟩:∃ f,p[i]?=some f:=⟨_,Ld hil⟩
   obtain⟨vb,hbT,hvb⟩:=Yjl Hrow.out hf;obtain⟨G1,c1,rfl,hG1,k1,k2,hrow1⟩:=hbT;unfold maxLen at k2;have HF:=hid (show ∀ W',SpW lo W0 W W'->W'.cell? ⟨w.heap.size,0,none⟩=some (.slice (some ⟨G,0,none⟩) p.length c)/\W'.cell? ⟨G,i*3+2,none⟩=some (.slice (some ⟨G1,0,none⟩) f.bk9.length c1) from fun W' h=>⟨HB.out W' h,hvb W W' h⟩);obtain⟨-,b1⟩:=HF.out wr hS.out;have Hrow1:=hid hrow1;clear hf hrow1 hvb;go_wp2_with fail;clear b0 b1;go_loopw [3] (fun s3 wr=>∃ k:Nat,k<=f.bk9.length/\s3=.int .i64 k/\Hid (SpW lo W0 W wr)) (fun s3 _=>f.bk9.length-(intOf s3).toNat)
   case atStart=>exact⟨0,Ln _,rfl,hS⟩
   case round=>
    obtain⟨k,hk,rfl,hS2⟩:=hrel;obtain⟨b0,b1⟩:=HF.out wr hS2.out
    by_cases hkl:k<f.bk9.length
    ·obtain⟨y,hy⟩:∃ y,f.bk9[k]?=some y:=⟨_,Ld hkl⟩
     obtain⟨vc,cb,hcT,hb1,hvc⟩:=Yjc Hrow1.out hy;obtain⟨G2,c2,rfl,hG2,l1,l2,hrow2⟩:=hcT;unfold maxLen at l2;obtain⟨e1,-,-⟩:=hvc W wr hS2.out;have Hrow2:=hid hrow2;have Hvc:=hid hvc;have Hb1:=hid hb1;have Hy:=hid hy;clear hrow2 hb1 hy hvc;go_wp2_with fail;clear b0 b1 e1;go_loopw [5] (fun s5 wr=>∃ j:Nat,j<=y.code.length/\s5=.int .i64 j/\Hid (SpW lo W0 W wr)) (fun s5 _=>y.code.length-(intOf s5).toNat)
     case atStart=>exact⟨0,Ln _,rfl,hS2⟩
     case round=>
      obtain⟨j,hj,rfl,hS3⟩:=hrel
      by_cases hjl:j<y.code.length
      ·obtain⟨x,hx⟩:∃ x,y.code[j]?=some x:=⟨_,Ld hjl⟩
       obtain⟨va,ci,n,hb2,hall,hfr,e6,hva⟩:=hS3.out.ins Hrow2.out hx;have Hb2:=hid hb2;have Hx:=hid hx;clear hx hb2 hall hfr;obtain⟨A,ca,rfl,hn,hca,hA⟩:∃ A ca,va=.slice A n ca/\n<=ca/\ca<=9223372036854775807/\(0<n->∃ g curs,A=some ⟨g,0,none⟩/\lo<=g/\W0.heap[g]?=some (.cells curs 9 (0,0))/\n<=curs.size):=by
        rcases hva with ⟨rfl,rfl⟩|⟨g,c,curs,rfl,h1,h2,h3,h4,h5⟩
        ·exact⟨none,0,rfl,Lf _,by omega,fun h=>absurd h (Nat.lt_irrefl _)⟩
        ·exact⟨_,c,rfl,h1,h2,fun _=>⟨g,curs,rfl,h3,h4,h5⟩⟩
       clear hva;go_wp2_with fail;go_loopw [6] (fun s6 wr=>∃ a:Nat,a<=n/\s6=.int .i64 a/\Hid (SpW lo W0 W wr)/\wr.cell? ⟨G2,j*8+6,none⟩=some (.slice A n ca)) (fun s6 _=>n-(intOf s6).toNat)
       case atStart=>exact⟨0,Ln _,rfl,hS3,e6⟩
       case round=>
        obtain⟨a,ha,rfl,hS4,e7⟩:=hrel;clear e6
        by_cases hal:a<n
        ·obtain⟨g,curs,rfl,hg1,hg2,hg3⟩:=hA (by omega);obtain⟨⟨u,hu⟩,hfz⟩:=hS4.out.text hg2 (show a<curs.size by omega);have hne:g≠G2:=fun e=>by
          subst e;rw[Hb2.out] at hg2;simp only[Option.some.injEq,Obj.cells.injEq] at hg2;exact absurd hg2.2.1 (by decide)
         have hS5:=hS4.out.set hg2 hg1 (.string ⟨#[115,112,111,105,108,116]⟩) (i:=a) (by decide) (fun e=>absurd e (by decide)) (fun e=>absurd e (by decide));have e8:(wr.setCell ⟨g,a,none⟩ (.string ⟨#[115,112,111,105,108,116]⟩)).cell? ⟨G2,j*8+6,none⟩=some (.slice (some ⟨g,0,none⟩) n ca):=(Lj (Below.heap_setCell wr ⟨g,a,none⟩ _ G2 hne.symm)).trans e7;have HS5:=hid hS5;have HE8:=hid e8;clear hS5 e8 hg2;go_wp2_with fail;go_roundw
         case rel=>exact⟨a+1,by omega,by go_num,HS5,HE8.out⟩
         case measure=>simp[intOf];omega
        ·obtain rfl:a=n:=by omega
         clear hA;obtain⟨va2,ci2,n2,hb3,hall,hfr,-,-⟩:=hS4.out.ins Hrow2.out Hx.out;obtain⟨u0,h0⟩:=hall 0 (by omega);obtain⟨u1,h1⟩:=hall 1 (by omega);obtain⟨u2,h2⟩:=hall 2 (by omega);obtain⟨u3,h3⟩:=hall 3 (by omega);obtain⟨u4,h4⟩:=hall 4 (by omega);obtain⟨u5,h5⟩:=hall 5 (by omega);obtain⟨u7,h7⟩:=hall 7 (by omega);have hS6:=hS4.out.zero (j:=j) Hb2.out hG2 (.int .u8 0) (.string ⟨#[]⟩) (.string ⟨#[]⟩) (.string ⟨#[]⟩) (.int .i64 0) (.string ⟨#[]⟩) (.slice none 0 0);have HS6:=hid hS6;clear hall hS6 hb3;rw[Nat.add_zero] at h0;go_wp2_with fail;go_roundw
         case rel=>exact⟨j+1,by omega,by go_num,HS6⟩
         case measure=>simp[intOf];omega
      ·obtain rfl:j=y.code.length:=by omega
       obtain⟨b0,b1⟩:=HF.out wr hS3.out;obtain⟨-,⟨u,hu⟩,hfr⟩:=Hvc.out W wr hS3.out;have hS7:=hS3.out.set (i:=k*2) Hb1.out hG1 (.string ⟨#[115,112,111,105,108,116]⟩) (by decide) (fun _=>by omega) (fun e=>absurd e (by decide));have HS7:=hid hS7;clear hS7;go_wp2_with fail;go_roundw
       case rel=>exact⟨k+1,by omega,by go_num,HS7⟩
       case measure=>simp[intOf];omega
    ·obtain rfl:k=f.bk9.length:=by omega
     go_wp2_with fail;go_roundw
     case rel=>exact⟨i+1,by omega,by go_num,hS2⟩
     case measure=>simp[intOf];omega
  ·go_wp2_with fail;go_end0;exact⟨rfl,(Chg.grown (Q:=fun n=>lo<=n/\n<W0.heap.size) HgW.out (fun r e=>by cases e)).trans hS.out.chg (fun _ _ e=>e)⟩

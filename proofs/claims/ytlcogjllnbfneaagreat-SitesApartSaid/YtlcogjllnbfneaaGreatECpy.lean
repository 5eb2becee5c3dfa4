/- sites. Conditions in it. -/
import Derived.Test.YtlcogjllnbfneaaGreatESta
import Derived.Test.YtlcogjllnbfneaaGreatESno
set_option maxHeartbeats 8000000
set_option maxRecDepth 100000
set_option linter.all false
namespace Go.Proofs.YtlcogjllnbfneaaGreat
open Lib(hid)
open Go.RowKit Go.Shelf
def SupI (lo:Nat) (w W:World) (B:Nat):Prop:=∀ n,lo<=n->n<w.heap.size->n<B/\W.heap[n]?=w.heap[n]?
theorem SupI.mono {lo lo':Nat} {w W:World} {B:Nat} (h:SupI lo w W B) (hl:lo<=lo'):SupI lo' w W B:=fun n h1 h2=>h n (Nat.le_trans hl h1) h2
theorem SupI.chg {lo:Nat} {w w1 W:World} {B:Nat} {Q:Nat->Prop} (h:SupI lo w1 W B) (hg:Chg Q w w1) (hq:∀ n,lo<=n->n<w.heap.size->¬ Q n):SupI lo w W B:=fun n h1 h2=>by
 obtain⟨h3,h4⟩:=h n h1 (Lm h2 hg.size);exact⟨h3,h4.trans (hg.block n h2 (hq n h1 h2))⟩
theorem SupI.refl (lo:Nat) (w:World):SupI lo w w w.heap.size:=fun _ _ h=>⟨h,rfl⟩
theorem Zgz {w W:World} {base B:Nat} {v:Value} {l:List Str} (h:w.ownsRow base 9 1 v l.length (l.map encS)) (hl:∀ s∈l,s.length<=9223372036854775807) (hs:SupI base w W B):StrsAt W B v l:=by
 obtain⟨A,c,e1,_,_,_,h1⟩:=Zz h;refine SlAt.of_ownN h rfl (fun g hg=>?_) (fun g k x hg hx=>?_)
 ·obtain⟨h2,h3⟩:=h.lt g hg;exact (hs g h2 h3).1
 ·obtain⟨h2,h3⟩:=h.lt g hg;have hA:A=some ⟨g,0,none⟩:=by
   rw[e1] at hg
   cases A with
   |none=>cases hg
   |some a=>
    have h4:=(h1 a rfl).1;injection hg with hg
    rw[h4,hg]
  subst hA;rw[e1] at h;obtain⟨_,_,_,_,hc⟩:=Xm h;refine⟨?_,hl x (Ll hx)⟩;rw[Nat.mul_one,World.cell?_of_block (hs g h2 h3).2];exact hc k _ (by rw[List.getElem?_map,hx];rfl)
def InsS (lo:Nat) (w:World) (x:GIns) (va vl:Value):Prop:=∀ W B,SupI lo w W B->InsAt W B x va vl
theorem Zgy {w:World} {B:Nat} {v:Value} {l:List Str} (h:StrsAt w B v l):∀ s∈l,s.length<=9223372036854775807:=fun s hs=>by
 obtain⟨A,c,_,_,_,h3⟩:=h;obtain⟨k,hk⟩:=List.mem_iff_getElem?.1 hs;obtain⟨_,_,_,_,hr⟩:=h3 k s hk;exact hr.2
def set8 (w:World) (g:Nat) (a b c d e f h i:Value):World:=(((((((w.setCell ⟨g,0,none⟩ a).setCell ⟨g,1,none⟩ b).setCell ⟨g,2,none⟩ c).setCell ⟨g,3,none⟩ d).setCell ⟨g,4,none⟩ e).setCell ⟨g,5,none⟩ f).setCell ⟨g,6,none⟩ h).setCell ⟨g,7,none⟩ i
theorem Zgu (w:World) (g:Nat) (a b c d e f h i:Value):w.grownBy (set8 w g a b c d e f h i) (some g):=by
 unfold set8;have h1:=Zn (Lb w (some g)) (p:=⟨g,0,none⟩) rfl a;have h2:=Zn h1 (p:=⟨g,1,none⟩) rfl b;have h3:=Zn h2 (p:=⟨g,2,none⟩) rfl c;have h4:=Zn h3 (p:=⟨g,3,none⟩) rfl d;have h5:=Zn h4 (p:=⟨g,4,none⟩) rfl e;have h6:=Zn h5 (p:=⟨g,5,none⟩) rfl f;have h7:=Zn h6 (p:=⟨g,6,none⟩) rfl h;exact Zn h7 (p:=⟨g,7,none⟩) rfl i
theorem Zgt {w:World} {g:Nat} {a0 b0 c0 d0 e0 f0 h0 i0:Value} {t:TypeId} (hb:w.heap[g]?=some (.cells #[a0,b0,c0,d0,e0,f0,h0,i0] t (0,0))) (a b c d e f h i:Value):(set8 w g a b c d e f h i).heap[g]?=some (.cells #[a,b,c,d,e,f,h,i] t (0,0)):=by
 unfold set8;have h1:=Zs hb 0 a;have h2:=Zs h1 1 b;have h3:=Zs h2 2 c;have h4:=Zs h3 3 d;have h5:=Zs h4 4 e;have h6:=Zs h5 5 f;have h7:=Zs h6 6 h;have h8:=Zs h7 7 i;rw[h8];simp
theorem Yht (x:GIns) (va vl:Value) (w:World) (B:Nat) (h:InsAt w B x va vl) (hB:B<=w.heap.size):
  Calls Tryz.prog 68 #[.agg #[.int .u8 x.op,.string ⟨x.dst.toArray⟩,.string ⟨x.a.toArray⟩,.string ⟨x.b.toArray⟩,.int .i64 x.n,.string ⟨x.fn.toArray⟩,va,vl]] w fun e w'=>∃ (A:Option Addr) (d:Nat) (A':Option Addr) (d':Nat),e=.returned (.agg #[.int .u8 x.op,.string ⟨x.dst.toArray⟩,.string ⟨x.a.toArray⟩,.string ⟨x.b.toArray⟩,.int .i64 x.n,.string ⟨x.fn.toArray⟩,.slice A x.args.length d,.slice A' x.lb9.length d'])/\
   InsS w.heap.size w' x (.slice A x.args.length d) (.slice A' x.lb9.length d')/\w.grownBy w' none/\w'.ownsRow w.heap.size 9 1 (.slice A x.args.length d) x.args.length (x.args.map encS):=by
 obtain⟨A4,d4,rfl,m4,_,_,hS⟩:=h.args.open_;obtain⟨A5,d5,rfl,m5,_,_,hL⟩:=h.lb9.open_;obtain⟨W,hW⟩:∃ W:World,W=(w.alloc (.cells #[.int .u8 x.op,.string ⟨x.dst.toArray⟩,.string ⟨x.a.toArray⟩,.string ⟨x.b.toArray⟩,.int .i64 x.n,.string ⟨x.fn.toArray⟩,.slice A4 x.args.length d4,.slice A5 x.lb9.length d5] 25)).alloc (.cells #[.int .u8 0,.string ⟨#[]⟩,.string ⟨#[]⟩,.string ⟨#[]⟩,.int .i64 0,.string ⟨#[]⟩,.slice none 0 0,.slice none 0 0] 25):=⟨_,rfl⟩
 have hgW:w.grownBy W none:=by rw[hW];exact Zd (Lc _ _ _) _
 have hbx:W.heap[w.heap.size]?=some (.cells #[.int .u8 x.op,.string ⟨x.dst.toArray⟩,.string ⟨x.a.toArray⟩,.string ⟨x.b.toArray⟩,.int .i64 x.n,.string ⟨x.fn.toArray⟩,.slice A4 x.args.length d4,.slice A5 x.lb9.length d5] 25 (0,0)):=by rw[hW];exact Zc (La _ _) _
 have hrs:W.heap[w.heap.size+1]?=some (.cells #[.int .u8 0,.string ⟨#[]⟩,.string ⟨#[]⟩,.string ⟨#[]⟩,.int .i64 0,.string ⟨#[]⟩,.slice none 0 0,.slice none 0 0] 25 (0,0)):=by
  rw[hW];have:=La (w.alloc (.cells #[.int .u8 x.op,.string ⟨x.dst.toArray⟩,.string ⟨x.a.toArray⟩,.string ⟨x.b.toArray⟩,.int .i64 x.n,.string ⟨x.fn.toArray⟩,.slice A4 x.args.length d4,.slice A5 x.lb9.length d5] 25)) (.cells #[.int .u8 0,.string ⟨#[]⟩,.string ⟨#[]⟩,.string ⟨#[]⟩,.int .i64 0,.string ⟨#[]⟩,.slice none 0 0,.slice none 0 0] 25);simpa using this
 have hcA:∀ W':World,W.grownBy W' none->Calls Tryz.prog 95 #[.slice A4 x.args.length d4] W' _:=fun W' hg=>Ux (hS.below strR.keeps (Zk (Zb hgW hg)) hB) (by have:=h.argsLe;omega)
 have hcL:∀ W':World,W.grownBy W' none->Calls Tryz.prog 95 #[.slice A5 x.lb9.length d5] W' _:=fun W' hg=>Ux (hL.below strR.keeps (Zk (Zb hgW hg)) hB) (by have:=h.labelsLe;omega)
 have i6:W.cell? ⟨w.heap.size,6,none⟩=some (.slice A4 x.args.length d4):=(Za hbx).1 6;have i7:W.cell? ⟨w.heap.size,7,none⟩=some (.slice A5 x.lb9.length d5):=(Za hbx).1 7;have HI:=hid h;have HcA:=hid hcA;have HcL:=hid hcL;have Hbx:=hid hbx;have Hrs:=hid hrs;have HgW:=hid hgW;have hsW:=hgW.size;clear h hS hL hcA hcL hbx hrs hgW
 have Hat:=hid (show ∀ w':World,W.grownBy w' none->w'.cell? ⟨w.heap.size,6,none⟩=some (.slice A4 x.args.length d4)/\w'.cell? ⟨w.heap.size,7,none⟩=some (.slice A5 x.lb9.length d5)/\w'.frozen? ⟨w.heap.size,6,none⟩=false/\w'.frozen? ⟨w.heap.size,7,none⟩=false from fun w' hg=>by
  have hb:=(hg.block _ (Ze Hbx.out) (by simp)).trans Hbx.out
  exact⟨(Za hb).1 6,(Za hb).1 7,(Za hb).2 6,(Za hb).2 7⟩)
 go_enter Tryz.func68,Tryz.ntmps68;go_upto_region 1 with (fail)
 rw[<-hW];clear hW
 go_cut [1] (fun s1 wx=>s1=.pointer (some ⟨w.heap.size,0,none⟩)/\∃ (A:Option Addr) (d:Nat) (A':Option Addr) (d':Nat),Hid (wx.heap[w.heap.size]?=some (.cells #[.int .u8 x.op,.string ⟨x.dst.toArray⟩,.string ⟨x.a.toArray⟩,.string ⟨x.b.toArray⟩,.int .i64 x.n,.string ⟨x.fn.toArray⟩,.slice A x.args.length d,.slice A' x.lb9.length d'] 25 (0,0)))/\
             Hid (wx.heap[w.heap.size+1]?=some (.cells #[.int .u8 0,.string ⟨#[]⟩,.string ⟨#[]⟩,.string ⟨#[]⟩,.int .i64 0,.string ⟨#[]⟩,.slice none 0 0,.slice none 0 0] 25 (0,0)))/\
             Hid (wx.ownsRow W.heap.size 9 1 (.slice A x.args.length d) x.args.length (x.args.map encS))/\Hid (wx.ownsRow W.heap.size 9 1 (.slice A' x.lb9.length d') x.lb9.length (x.lb9.map encS))/\Hid (w.grownBy wx none))
 case first=>
  go_region_law (first
                 |(go_simp;go_at_call 95;with_reducible (change Calls Tryz.prog _ #[Value.slice A4 x.args.length d4] _ _);go_must (refine (HcA.out _ (by first|exact Lb _ _|exact Y4 (Lb _ _))).mono ?_;rintro e w3 ⟨v3,rfl,ho3,hb3⟩;obtain⟨A3,c3,rfl,-,-,-,-⟩:=Zz ho3;have hg3:W.grownBy w3 none:=Zb (by first|exact Lb _ _|exact Y4 (Lb _ _)) (Zj hb3);have y7:=(Hat.out w3 hg3).2.1;have Ho3:=hid ho3;have Hb3:=hid hg3;clear ho3 hb3 hg3))
                 |(go_simp;go_at_call 95;with_reducible (change Calls Tryz.prog _ #[Value.slice A5 x.lb9.length d5] _ _);refine (HcL.out _ Hb3.out).mono ?_;rintro e w4 ⟨v4,rfl,ho4,hb4⟩;obtain⟨A4',c4,rfl,-,-,-,-⟩:=Zz ho4;have hg4:W.grownBy w4 none:=Zb Hb3.out (Zj hb4);have z6:=(Hat.out w4 hg4).1;have z7:=(Hat.out w4 hg4).2.1;have f6:=(Hat.out w4 hg4).2.2.1;have f7:=(Hat.out w4 hg4).2.2.2;have Ho4:=hid ho4;have Hg4:=hid hg4;have Hb4:=hid hb4;clear ho4 hg4 hb4))
  all_goals (go_wp2_with fail;go_meet)
  all_goals
   have hgs:w4.grownBy ((w4.setCell ⟨w.heap.size,6,none⟩ (.slice A3 x.args.length c3)).setCell ⟨w.heap.size,7,none⟩ (.slice A4' x.lb9.length c4)) (some w.heap.size):=Zn (p:=⟨w.heap.size,7,none⟩) (Zn (p:=⟨w.heap.size,6,none⟩) (Lb w4 (some w.heap.size)) rfl _) rfl _;have hb4:=(Hg4.out.block _ (Ze Hbx.out) (by simp)).trans Hbx.out;have hr4:=(Hg4.out.block _ (Ze Hrs.out) (by simp)).trans Hrs.out;have hlt:=Ze Hbx.out;have hs3:=Hb3.out.size;have ho3:w4.ownsRow W.heap.size 9 1 (.slice A3 x.args.length c3) x.args.length (x.args.map encS):=Ho3.out.kept (Zj Hb4.out) (by cases (Value.slice A3 x.args.length c3).ownBlock<;>simp);have ho4:=Zcy Ho4.out hs3;have hne:∀ {v:Value} {n:Nat} {xs:List Value},w4.ownsRow W.heap.size 9 1 v n xs->v.ownBlock=none\/v.ownBlock≠some w.heap.size:=fun h=>.inr fun e=>by have:=(h.lt _ e).1;omega
   refine⟨rfl,A3,c3,A4',c4,hid (Zs (Zs hb4 6 _) 7 _),hid ((hgs.block _ (Ze hr4) (by simp)).trans hr4),hid (ho3.kept hgs (hne ho3)),hid (ho4.kept hgs (hne ho4)),hid ?_⟩;exact Zi (Zi (Zb HgW.out Hg4.out) (Lf _) _) (Lf _) _
 case rest=>
  obtain⟨rfl,A,d,A',d',hb,hr,ho,ho',hg⟩:=hcut;clear i6 i7 HcA HcL Hat;have i0:wc.cell? ⟨w.heap.size,0,none⟩=some (.int .u8 x.op):=(Za hb.out).1 0;have i1:wc.cell? ⟨w.heap.size,1,none⟩=some (.string ⟨x.dst.toArray⟩):=(Za hb.out).1 1;have i2:wc.cell? ⟨w.heap.size,2,none⟩=some (.string ⟨x.a.toArray⟩):=(Za hb.out).1 2;have i3:wc.cell? ⟨w.heap.size,3,none⟩=some (.string ⟨x.b.toArray⟩):=(Za hb.out).1 3;have i4:wc.cell? ⟨w.heap.size,4,none⟩=some (.int .i64 x.n):=(Za hb.out).1 4;have i5:wc.cell? ⟨w.heap.size,5,none⟩=some (.string ⟨x.fn.toArray⟩):=(Za hb.out).1 5;have i6:wc.cell? ⟨w.heap.size,6,none⟩=some (.slice A x.args.length d):=(Za hb.out).1 6;have i7:wc.cell? ⟨w.heap.size,7,none⟩=some (.slice A' x.lb9.length d'):=(Za hb.out).1 7;obtain⟨r,hrr⟩:∃ r,r=w.heap.size+1:=⟨_,rfl⟩
  rw[<-hrr] at hr ⊢;have hrc:∀ j,wc.cell? ⟨r,j,none⟩= #[Value.int .u8 0,.string ⟨#[]⟩,.string ⟨#[]⟩,.string ⟨#[]⟩,.int .i64 0,.string ⟨#[]⟩,.slice none 0 0,.slice none 0 0][j]?:=(Za hr.out).1;have hrf:∀ j,wc.frozen? ⟨r,j,none⟩=false:=(Za hr.out).2;have hrl:w.heap.size<=r:=by omega
  have hrW:r<W.heap.size:=by rw[hrr];exact Ze Hrs.out
  clear hrr;go_wp2;have hfin:=Zgt hr.out (.int .u8 x.op) (.string ⟨x.dst.toArray⟩) (.string ⟨x.a.toArray⟩) (.string ⟨x.b.toArray⟩) (.int .i64 x.n) (.string ⟨x.fn.toArray⟩) (.slice A x.args.length d) (.slice A' x.lb9.length d');have hgf:=Zgu wc r (.int .u8 x.op) (.string ⟨x.dst.toArray⟩) (.string ⟨x.a.toArray⟩) (.string ⟨x.b.toArray⟩) (.int .i64 x.n) (.string ⟨x.fn.toArray⟩) (.slice A x.args.length d) (.slice A' x.lb9.length d');obtain⟨wf,hwf⟩:∃ wf:World,wf=set8 wc r (.int .u8 x.op) (.string ⟨x.dst.toArray⟩) (.string ⟨x.a.toArray⟩) (.string ⟨x.b.toArray⟩) (.int .i64 x.n) (.string ⟨x.fn.toArray⟩) (.slice A x.args.length d) (.slice A' x.lb9.length d'):=⟨_,rfl⟩
  change bodyPost _ _ _ _ _ (set8 wc r (.int .u8 x.op) (.string ⟨x.dst.toArray⟩) (.string ⟨x.a.toArray⟩) (.string ⟨x.b.toArray⟩) (.int .i64 x.n) (.string ⟨x.fn.toArray⟩) (.slice A x.args.length d) (.slice A' x.lb9.length d'));rw[<-hwf] at hfin hgf ⊢;clear hwf hrc hrf;have r0:wf.cell? ⟨r,0,none⟩=some (.int .u8 x.op):=(Za hfin).1 0;have r1:wf.cell? ⟨r,1,none⟩=some (.string ⟨x.dst.toArray⟩):=(Za hfin).1 1;have r2:wf.cell? ⟨r,2,none⟩=some (.string ⟨x.a.toArray⟩):=(Za hfin).1 2;have r3:wf.cell? ⟨r,3,none⟩=some (.string ⟨x.b.toArray⟩):=(Za hfin).1 3;have r4:wf.cell? ⟨r,4,none⟩=some (.int .i64 x.n):=(Za hfin).1 4;have r5:wf.cell? ⟨r,5,none⟩=some (.string ⟨x.fn.toArray⟩):=(Za hfin).1 5;have r6:wf.cell? ⟨r,6,none⟩=some (.slice A x.args.length d):=(Za hfin).1 6;have r7:wf.cell? ⟨r,7,none⟩=some (.slice A' x.lb9.length d'):=(Za hfin).1 7;have hown:∀ {v:Value} {n:Nat} {xs:List Value},wc.ownsRow W.heap.size 9 1 v n xs->wf.ownsRow W.heap.size 9 1 v n xs:=fun h=>h.kept hgf (.inr fun e=>by have:=(h.lt _ e).1;omega)
  refine bodyPost_ret (v:=.agg #[.int .u8 x.op,.string ⟨x.dst.toArray⟩,.string ⟨x.a.toArray⟩,.string ⟨x.b.toArray⟩,.int .i64 x.n,.string ⟨x.fn.toArray⟩,.slice A x.args.length d,.slice A' x.lb9.length d']) (by simp[results,Tryz.results68,go_sem,r0,r1,r2,r3,r4,r5,r6,r7]) rfl ⟨_,_,_,_,rfl,fun W' B' hs=>?_,Y3 hg.out hgf (fun q e=>by injection e with e;omega),Zcy (hown ho.out) hsW⟩;have hs2:=hs.mono hsW;exact { HI.out with args:=Zgz (hown ho.out) (Zgy HI.out.args) hs2,lb9:=Zgz (hown ho'.out) (Zgy HI.out.lb9) hs2 }

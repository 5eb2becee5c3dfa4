/- The contract of graph. Conditions in it. -/
import Derived.Test.YtlcogjllnbfneaaGreatEGra
set_option maxHeartbeats 2000000
set_option maxRecDepth 100000
set_option linter.all false
namespace Go.Proofs.YtlcogjllnbfneaaGreat
open Lib(hid)
section
open Go.RowKit
theorem Zeu {base:Nat} {v:Value} {l:List Nat} {w:World} (h:w.ownsRow base 3 1 v l.length (l.map Z4)):
  Calls Tryz.prog 184 #[v] w fun e w'=>e=.returned (.tuple #[])/\w'.ownsRow base 3 1 v l.length (l.reverse.map Z4)/\w.grownBy w' v.ownBlock:=by
 have h':=h
 rcases h.2 with ⟨rfl,h0⟩|⟨g,cap,cur,rfl,hbase,hh,h1,h2,h3,h4⟩
 ·refine (Tryz.slices_Reverse_int_empty none 0 w).mono ?_;rintro e w' ⟨rfl,rfl⟩;have:l=[]:=List.eq_nil_of_length_eq_zero h0;subst this;exact⟨rfl,h',Lb _ _⟩
 ·have hH:=holds_of_blockI (ss:=Xo l) hh (by rw[Z3,<-Q3];simpa using h4);have hml:=h2;unfold maxLen at hml;have hc:=Tryz.slices_Reverse_int g 0 cap (Xo l) w hH (by rw[Z3];omega);rw[Z3] at hc;refine hc.mono ?_;rintro e w' ⟨rfl,q,rfl⟩;have e1:(Xo l).reverse=Xo l.reverse:=by simp[Xo]
  rw[e1];have:=ownsRow_sortedI (n:=q) (os:= #[]) (ss:=Xo l) (ts:=Xo l.reverse) (by simp[Xo]) hbase hh (by rw[Z3];exact h1) h2 h3;rw[Z3,<-Q3,Go.Sort.grow_empty] at this;refine⟨rfl,this,?_⟩;have:=grownBy_sortedI (w:=w) (g:=g) (n:=q) (os:= #[]) (Xo l.reverse).toArray
  rwa [Go.Sort.grow_empty] at this
theorem post_1 (k S sb n:Nat) (seen:List Bool) (w:World) (hk:k<n) (hn:seen.length=n) (hs:w.heap[S]?=some (.cells (seen.map Value.bool).toArray 4 (0,0))) (hb:w.cell? ⟨sb,0,none⟩=some (.slice (some ⟨S,0,none⟩) n n)) (hn2:n<=65536):
  Calls Tryz.prog 183 #[.int .i64 k,.pointer (some ⟨sb,0,none⟩)] w fun e w'=>e=.returned (.bool (!(seen.getD k false)))/\w=w':=by
 have hkl:k<seen.length:=by omega
 have hc:w.cell? ⟨S,k,none⟩=some (.bool (seen.getD k false)):=by
  rw[(Za hs).1];simp[hkl,List.getD]
 generalize seen.getD k false=b at hc ⊢;clear hs hn hkl;go_enter Tryz.func183,Tryz.ntmps183;go_wp2;go_ret;exact⟨rfl,rfl⟩
theorem Zhq:∀ args w,(callFunc 183 args).run Tryz.prog w=.ok (.enter 183 args) w:=enters_of Tryz.func183 (by kernel_rfl) rfl
def PostOut (g:Gph) (root:Nat) (w:World) (e:Ending) (w':World):Prop:=∃ (v:Value) (order:List Nat),e=.returned v/\PostOk g root order/\w'.ownsRow w.heap.size 3 1 v order.length (order.map Z4)/\(∀ x∈order,x<g.length)/\Below w.heap.size w w'
structure PS (h n:Nat) (w1 W:World) (seen:List Bool) (v7:Value) (way:List Nat) (v8:Value) (left:List Nat):Prop where
 bs:W.heap[h]?=some (.cells (seen.map Value.bool).toArray 4 (0,0))
 box:W.heap[h+1]?=some (.cells #[.slice (some ⟨h,0,none⟩) n n] 193 (0,0))
 way:W.ownsRow (h+1+1) 3 1 v7 way.length (way.map Z4)
 left:W.ownsRow (h+1+1) 3 1 v8 left.length (left.map Z4)
 ne:v7.ownBlock=none\/v7.ownBlock≠v8.ownBlock
 low:Below h w1 W
theorem PInv.lt {g:Gph} {root:Nat} {seen:List Bool} {way left:List Nat} (h:PInv g root seen way left) {x:Nat} (hx:x∈left++way.reverse):x<g.length:=by
 have:=(Le ((h.seen x).2 hx)).1
 rwa [h.len] at this
theorem PInv.size {g:Gph} {root:Nat} {seen:List Bool} {way left:List Nat} (h:PInv g root seen way left):left.length+way.length<=g.length:=by
 have:=h.nodup.length_le_of_subset (l₂:=List.range g.length) (fun x hx=>List.mem_range.2 (h.lt hx));simpa using this
def PRel (g:Gph) (root h:Nat) (w1:World) (m:Nat) (A7:Option Addr) (n7 c7:Nat) (A8:Option Addr) (n8 c8:Nat) (W:World):Prop:=
 ∃ seen way left,way.length=n7/\left.length=n8/\PS h g.length w1 W seen (.slice A7 n7 c7) way (.slice A8 n8 c8) left/\PInv g root seen way left/\2*cf seen+way.length<=m
theorem cf_le' (l:List Bool):cf l<=l.length:=List.count_le_length
theorem Zsb {α:Type} (p:α->Bool) (l:List α):(∀ x∈l,p x=false)\/∃ j x,l[j]?=some x/\p x=true/\idxOf p l=(j:Nat):=by
 unfold idxOf
 cases h:l.findIdx? p with
 |none=>exact .inl (by simpa using h)
 |some j=>
  obtain⟨hj,h1,_⟩:=List.findIdx?_eq_some_iff_getElem.1 h;exact .inr ⟨j,l[j],Ld hj,h1,rfl⟩
theorem Zvx (v:Value) (g:Gph) (root:Nat) (B:Nat) (w:World) (hB:B<=w.heap.size) (h:GraphAt w B v g) (hok:GOk g) (hroot:root<g.length):
  Calls Tryz.prog 128 #[v,.int .i64 root] w fun e w'=>PostOut g root w e w':=by
 have hlen:=hok.len;have hmk:=Zee g.length hlen;have hno:=Zmm v g B w hB h hok;obtain⟨A,c,rfl,hm,hlc,hcm,hA⟩:=h.open_;have q1:decide ((root:Int)<0)=false:=by simp
 have q2:decide ((root:Int)>=g.length)=false:=by simp;omega
 have q3:decide (g.length<=root)=false:=by simp;omega
 clear h hA;go_enter Tryz.func128,Tryz.ntmps128;go_wp2_with (go_at_call 180;refine hno.mono ?_;rintro e w1 ⟨v1,rfl,⟨S,rfl,hS,hN⟩,hb1⟩);obtain⟨wo,hwo⟩:∃ wo:World,wo=((w1.alloc (.cells ((Array.replicate g.length (.bool false)).setIfInBounds root (.bool true)) 4)).alloc (.cells #[.slice (some ⟨w1.heap.size,0,none⟩) g.length g.length] 193)).alloc (.cells #[.int .i64 root] 3):=⟨_,rfl⟩
 have hP0:PRel g root w1.heap.size w1 (2*g.length) (some ⟨w1.heap.size+1+1,0,none⟩) 1 1 none 0 0 wo:=by
  have a0:=La w1 (.cells ((Array.replicate g.length (.bool false)).setIfInBounds root (.bool true)) 4);have a1:=La (w1.alloc (.cells ((Array.replicate g.length (.bool false)).setIfInBounds root (.bool true)) 4)) (.cells #[.slice (some ⟨w1.heap.size,0,none⟩) g.length g.length] 193);have a2:=La ((w1.alloc (.cells ((Array.replicate g.length (.bool false)).setIfInBounds root (.bool true)) 4)).alloc (.cells #[.slice (some ⟨w1.heap.size,0,none⟩) g.length g.length] 193)) (.cells #[.int .i64 root] 3);simp only[World.size_alloc] at a1 a2;refine⟨(List.replicate g.length false).set root true,[root],[],rfl,rfl,⟨?_,?_,?_,World.ownsRow_nil _ _ _ _,.inr (by simp[Value.ownBlock]),?_⟩,PInv.start g root hroot,?_⟩
  ·rw[hwo,List.map_set,List.map_replicate,<-Lg,List.toArray_replicate];exact Zc (Zc a0 _) _
  ·rw[hwo];exact Zc a1 _
  ·rw[hwo];exact⟨by simp,.inr ⟨_,1,#[.int .i64 root],rfl,Lf _,a2,by simp,by simp[maxLen],by simp,by simp[Z4]⟩⟩
  ·rw[hwo];exact (((Below.refl w1.heap.size w1).alloc (Lf _) _).alloc (by simp) _).alloc (by simp;omega) _
  ·have:=Znr (l:=List.replicate g.length false) (k:=root) (by simp[hroot]);have:=cf_le' (List.replicate g.length false);simp at*
   omega
 have hN0:=hid hN;have Hb1:=hid hb1;have hSl:=hN.lt;rw[<-hwo];clear hwo hmk hno hN hb1;go_loopg [7,8] (2*g.length) (fun m s7 s8 wr=>∃ A7 n7 c7 A8 n8 c8,s7=.slice A7 n7 c7/\s8=.slice A8 n8 c8/\Hid (PRel g root w1.heap.size w1 m A7 n7 c7 A8 n8 c8 wr))
 case atStart=>exact⟨_,_,_,_,_,_,rfl,rfl,hP0⟩
 case round=>
  obtain⟨A7,n7,c7,A8,n8,c8,rfl,rfl,hR⟩:=hrel;obtain⟨seen,way,left,h7,rfl,hS2,hI,hM⟩:=hR.out;have hsz:=hI.size;clear hP0 hR
  rcases List.eq_nil_or_concat way with rfl|⟨wy,i,e⟩
  ·obtain rfl:n7=0:=h7.symm;have hrev:=Zeu hS2.left;have HS:=hid hS2;have HI:=hid hI;clear hS2 hI hM;go_wp2_with fail;refine hrev.mono ?_;rintro e w' ⟨rfl,ho,hg⟩;go_wp2_with fail;go_ret;have hle:w.heap.size<=w1.heap.size:=Hb1.out.size;refine⟨_,left.reverse,rfl,HI.out.over,Zcy (by rw[List.length_reverse];exact ho) (by omega),fun x hx=>HI.out.lt (by simpa using hx),?_⟩;exact Hb1.out.trans ((Z1 HS.out.low hg (by have:=HS.out.low.size;omega) (fun r e=>by have:=(HS.out.left.lt r e).1;omega)).mono hle)
  ·rw[List.concat_eq_append] at e;subst e;obtain rfl:n7=wy.length+1:=by rw[<-h7];simp
   have ho7:=hS2.way;simp only[List.length_append,List.length_cons,List.length_nil,Nat.zero_add] at ho7 hsz hS2;obtain⟨_,_,e7,hd1,hd2,_,_⟩:=Z5 ho7;injection e7 with e71 e72 e73
   subst e71;subst e73;clear e72;obtain⟨b,rfl,hb1,hb2,hci⟩:=Jc (k:=wy.length) (x:=i) ho7 (by simp);have hil:i<g.length:=hI.lt (by simp);have hx:g[i]?=some g[i]:=Ld hil;generalize g[i]=r at hx;have hrow:=Zpf hx;have hrm:r∈g:=Ll hx;have hrl:=hok.rowLen hrm;obtain⟨v1,c1,_,ho1⟩:=hN0.out.read hx;obtain⟨A1,d1,rfl,_,_,_,hA1⟩:=Z5 ho1;have hr0:=Ju ho1 (fun x hx=>by have:=hok.lt r hrm x hx;omega);have c1':=cur hS2.low hSl c1;have hr1:=hr0.below natR.keeps hS2.low (Lf _);have hlow:=hS2.low.size;have hbox:=Ze hS2.box;obtain⟨x1,x2⟩:=Za hS2.box;have hcI:=Kx (.slice A1 r.length d1) r 183 #[.pointer (some ⟨w1.heap.size+1,0,none⟩)] wr w1.heap.size (fun k=> !(seen.getD k false)) hlow hr1 Zhq
    (fun k W hW hk=>(post_1 k w1.heap.size (w1.heap.size+1) g.length seen W (hok.lt r hrm k hk) hI.len ((hW.block _ (by omega)).trans hS2.bs) ((hW.cell (p:=⟨w1.heap.size+1,0,none⟩) hbox).trans (x1 0)) hlen).mono fun e w' ⟨he,hw⟩=>⟨he,hw▸hW⟩)
   have hd3:wy.length<=c7:=by omega
   rcases Zsb (fun k=> !(seen.getD k false)) r with hall|⟨j,k,hj,hk,hidx⟩
   ·rw[Zgc hall] at hcI
    have hI2:=hI.pop (fun k hk=>by
     have h1:=hall k (by rwa [hrow] at hk)
     have h2:k<seen.length:=by rw[hI.len];rw[hrow] at hk;exact hok.lt r hrm k hk
     simp only[List.getD,List.getElem?_eq_getElem h2,Option.getD_some,Bool.not_eq_false'] at h1
     rw[List.getElem?_eq_getElem h2,h1])
    have HS:=hid hS2;have HI:=hid hI2;have HM:=hid hM;have c3:∀ W:World,(W.alloc (.cells #[.int .i64 i] 3)).cell? ⟨W.heap.size,0,none⟩=some (.int .i64 i):=fun W=>by simp
    clear hS2 hI hI2 hM ho7 hr0 hr1 ho1 c1 hA1 hx hall x1 x2 h7 hrow
    repeat go_step
    refine hcI.mono ?_;rintro e W2 ⟨rfl,hbw⟩;have ho8:=(HS.out.left.kept (Zj hbw) (by cases (Value.slice A8 left.length c8).ownBlock<;>simp)).alloc (.cells #[.int .i64 i] 3);have hsz2:=hbw.size;have c4:=c3 W2;clear c3;go_wp2_with (refine X2 rfl _ _ rfl (w1.heap.size+1+1) _ left rfl ho8 W2.heap.size i rfl c4 (by omega) (by simp;omega) ?_;intro G cap W3 ho9 hg3 hor);go_roundg (gk-1)
    case measure=>have:=HM.out;simp at this;omega
    case rel=>
     have hgw:W2.grownBy W3 (Value.slice A8 left.length c8).ownBlock:=Zb (Lc W2 _ _) hg3;have hgr:wr.grownBy W3 (Value.slice A8 left.length c8).ownBlock:=Zb (Qr (Zj hbw) _) hgw;have hlt8:=HS.out.left.lt;have hne:(Value.slice (some ⟨b,0,none⟩) wy.length c7).ownBlock=none\/(Value.slice (some ⟨b,0,none⟩) wy.length c7).ownBlock≠(Value.slice A8 left.length c8).ownBlock:=HS.out.ne;refine⟨_,_,_,_,_,_,rfl,rfl,seen,wy,left++[i],rfl,by simp,⟨?_,?_,?_,ho9,?_,?_⟩,HI.out,by have:=HM.out;simp at this ⊢;omega⟩
     ·exact (hgr.block _ (by omega) (fun e=>by have:=(hlt8 _ e.symm).1;omega)).trans HS.out.bs
     ·exact (hgr.block _ (by omega) (fun e=>by have:=(hlt8 _ e.symm).1;omega)).trans HS.out.box
     ·have hp:wr.ownsRow (w1.heap.size+1+1) 3 1 (.slice (some ⟨b,0,none⟩) wy.length c7) wy.length (wy.map Z4):=Jv (by have:=HS.out.way;simp only[List.length_append,List.length_cons,List.length_nil,Nat.zero_add,List.map_append] at this;exact this) (by simp);exact hp.kept hgr hne
     ·right
      rcases hor with h1|h1
      ·have h1':(Value.slice A8 left.length c8).ownBlock=some G:=h1;rw[h1'] at hne;exact hne.resolve_left (by simp[Value.ownBlock])
      ·subst h1;simp[Value.ownBlock];omega
     ·exact Z1 HS.out.low hgr hlow (fun r e=>by have:=(hlt8 r e).1;omega)
   ·have hjl:=(Le hj).1;have hkm:k∈r:=Ll hj;have hkl:=hok.lt r hrm k hkm;rw[hidx] at hcI;have hkf:seen[k]?=some false:=by
     have h2:k<seen.length:=by rw[hI.len];exact hkl
     simp only[List.getD,List.getElem?_eq_getElem h2,Option.getD_some,Bool.not_eq_true'] at hk;rw[List.getElem?_eq_getElem h2,hk]
    have hI2:=hI.push (by rw[hrow];exact hkm) hkf;obtain⟨b1,rfl,hb3,hb4,hcj⟩:=Jc ho1 hj;have hcj':=cur hS2.low hb4 hcj;have hsc:wr.cell? ⟨w1.heap.size,k,none⟩=some (.bool false):=by
     rw[(Za hS2.bs).1];simp[hkf]
    have hsf:=(Za hS2.bs).2 k;have hxf:=x2 0;have hx0:=x1 0;have HS:=hid hS2;have HI:=hid hI2;have HM:=hid hM;have Hkf:=hid hkf;have q5:¬ ((j:Int)<0):=by omega
    have q6:decide ((j:Int)<0)=false:=by simp
    clear hS2 hI hI2 hM hr0 hr1 ho1 c1 hA1 hx x1 x2 hcj hkf hk hj ho7 hidx h7 hrow
    repeat go_step
    refine hcI.mono ?_;rintro e W2 ⟨rfl,hbw⟩;have d0:=cur hbw (by omega) c1';have d2:=cur hbw (by omega) hcj';have d3:=cur hbw (by omega) hsc;have d4:=(hbw.frozen (p:=⟨w1.heap.size,k,none⟩) (by simp;omega)).trans hsf;have d5:=cur hbw (by omega) hx0;clear c1' hcj' hsc hsf hx0 hxf;go_upto_region 14 with (fail)
    go_region;have ho7:=HS.out.way;simp only[List.length_append,List.length_cons,List.length_nil,Nat.zero_add] at ho7;obtain⟨W3,hW3⟩:∃ W3:World,W3=(W2.setCell ⟨w1.heap.size,k,none⟩ (.bool true)).drew:=⟨_,rfl⟩
    have hg3:W2.grownBy W3 (some w1.heap.size):=by rw[hW3];exact Zf (Zn (Lb _ _) rfl _)
    have hsz2:=hbw.size;have hsz3:=hg3.size;have ho9:=((ho7.kept (Zj hbw) (by cases (Value.slice (some ⟨b,0,none⟩) (wy.length+1) c7).ownBlock<;>simp)).kept hg3 (.inr (by simp[Value.ownBlock];omega)))
    have d7:W3.cell? ⟨S,i,none⟩=some (.slice (some ⟨b1,0,none⟩) r.length d1):=(Lj (hg3.block _ (by simp;omega) (by simp;omega))).trans d0;have d8:W3.cell? ⟨b1,j,none⟩=some (.int .i64 k):=(Lj (hg3.block _ (by simp;omega) (by simp;omega))).trans d2;have hblk3:W3.heap[w1.heap.size]?=some (.cells ((seen.set k true).map Value.bool).toArray 4 (0,0)):=by
     rw[hW3,show ((seen.set k true).map Value.bool).toArray=((seen.map Value.bool).toArray).setIfInBounds k (.bool true) by simp[List.map_set]];exact Vr ((hbw.block _ (by omega)).trans HS.out.bs) k _
    have ho10:=ho9.alloc (.cells #[.int .i64 k] 3);have c4:(W3.alloc (.cells #[.int .i64 k] 3)).cell? ⟨W3.heap.size,0,none⟩=some (.int .i64 k):=by simp
    have ho12:(W3.alloc (.cells #[.int .i64 k] 3)).ownsRow (w1.heap.size+1+1) 3 1 (.slice (some ⟨b,0,none⟩) (wy.length+1) c7) (wy++[i]).length ((wy++[i]).map Z4):=by
     rw[List.length_append];exact ho10
    have hll:(wy++[i]).length<=1099511627776:=by rw[List.length_append,List.length_singleton];omega
    have hl3:w1.heap.size+1+1<=(W3.alloc (.cells #[.int .i64 k] 3)).heap.size:=by rw[World.size_alloc];omega
    have Hll:=hid hll;have Hl3:=hid hl3;clear hll hl3 ho10;rw[<-hW3];clear hW3 d0 d2 d3 d4 d5 hci ho7 ho9 q5 q6;go_wp2_with (refine X2 rfl _ _ rfl (w1.heap.size+1+1) _ (wy++[i]) rfl ho12 W3.heap.size k rfl c4 Hll.out Hl3.out ?_;intro G cap W4 ho11 hg4 hor);go_roundg (gk-1)
    case measure=>have:=HM.out;simp at this;omega
    case rel=>
     have hgw:W3.grownBy W4 (Value.slice (some ⟨b,0,none⟩) (wy.length+1) c7).ownBlock:=Zb (Lc W3 _ _) hg4;have ho13:=ho11;rw[show (wy++[i]).length+1=wy.length+1+1 by simp] at ho13;have hlt8:=HS.out.left.lt;have hne:(Value.slice (some ⟨b,0,none⟩) (wy.length+1) c7).ownBlock=none\/(Value.slice (some ⟨b,0,none⟩) (wy.length+1) c7).ownBlock≠(Value.slice A8 left.length c8).ownBlock:=HS.out.ne;have hne':(Value.slice A8 left.length c8).ownBlock=none\/(Value.slice A8 left.length c8).ownBlock≠(Value.slice (some ⟨b,0,none⟩) (wy.length+1) c7).ownBlock:=.inr fun e=>(hne.resolve_left (by simp[Value.ownBlock])) e.symm
     have hbx:∀ (x:Nat) (o:Obj),x<w1.heap.size+1+1->x≠w1.heap.size->wr.heap[x]?=some o->W4.heap[x]?=some o:=fun x o h1 h2 h3=>
      (hgw.block x (by omega) (fun e=>by simp[Value.ownBlock] at e;omega)).trans ((hg3.block x (by omega) (fun e=>by simp at e;omega)).trans ((hbw.block x (by omega)).trans h3))
     refine⟨_,_,_,_,_,_,rfl,rfl,seen.set k true,wy++[i]++[k],left,by simp,rfl,⟨?_,?_,ho13,?_,?_,?_⟩,HI.out,?_⟩
     ·exact (hgw.block _ (by omega) (fun e=>by simp[Value.ownBlock] at e;omega)).trans hblk3
     ·exact hbx _ _ (by omega) (by omega) HS.out.box
     ·refine ((HS.out.left.kept (Zj hbw) (by cases (Value.slice A8 left.length c8).ownBlock<;>simp)).kept hg3 ?_).kept hgw hne'
      cases e:(Value.slice A8 left.length c8).ownBlock with
      |none=>exact .inl rfl
      |some x=>exact .inr (by have:=(hlt8 x e).1;simp;omega)
     ·right
      rcases hor with h1|h1
      ·have h1':(Value.slice (some ⟨b,0,none⟩) (wy.length+1) c7).ownBlock=some G:=h1;rw[h1'] at hne;exact hne.resolve_left (by simp)
      ·subst h1;intro e;have:=(hlt8 _ e.symm).2;simp at this;omega
     ·have hB3:Below w1.heap.size w1 W3:=Z1 (Z1 HS.out.low (Zj hbw) hlow (fun r e=>by cases e)) hg3 (by omega) (fun r e=>by cases e;exact Lf _);exact Z1 hB3 hgw (by omega) (fun r e=>by simp[Value.ownBlock] at e;omega)
     ·have h1:=Znr Hkf.out;have h2:=HM.out;simp at h2 ⊢;omega
end
section
open Go.RowKit
structure RS (w:World) (gb O ob nb base:Nat) (A:Option Addr) (n c:Nat) (s:List Bool×List Nat):Prop where
 g:w.heap[gb]?=some (.cells #[.slice A n c] 141 (0,0))
 o:w.heap[ob]?=some (.cells #[.slice (some ⟨O,0,none⟩) n n] 193 (0,0))
 bs:w.heap[O]?=some (.cells (s.1.map Value.bool).toArray 4 (0,0))
 nx:∃ v,w.heap[nb]?=some (.cells #[v] 84 (0,0))/\w.ownsRow base 3 1 v s.2.length (s.2.map Z4)
 len:s.1.length=n
 l1:gb<O
 l2:O<ob
 l3:ob<nb
 l4:nb<base
 l5:base<=w.heap.size
theorem Zoa {s:List Bool×List Nat} {k:Nat} (h:s.1[k]?=some false):Xa s k=(s.1.set k true,s.2++[k]):=by rw[Xa,if_pos h]
theorem Zrr {s:List Bool×List Nat} {k:Nat} (h:s.1[k]?=some true):Xa s k=s:=by rw[Xa,if_neg (by rw[h];simp)]
theorem Zqt (k gb O ob nb base:Nat) (A:Option Addr) (n c:Nat) (s:List Bool×List Nat) (w:World) (hk:k<n) (hn:n<=65536) (hl:s.2.length<=1099511627776) (h:RS w gb O ob nb base A n c s):
  Calls Tryz.prog 186 #[.int .i64 k,.pointer (some ⟨gb,0,none⟩),.pointer (some ⟨ob,0,none⟩),.pointer (some ⟨nb,0,none⟩)] w fun e w'=>e=.returned (.tuple #[])/\RS w' gb O ob nb base A n c (Xa s k)/\Below gb w w':=by
 obtain⟨v,hnx,ho⟩:=h.nx;obtain⟨A2,d2,rfl,_,_,_,_⟩:=Z5 ho;obtain⟨g1,g2⟩:=Za h.g;obtain⟨o1,o2⟩:=Za h.o;obtain⟨b1,b2⟩:=Za h.bs;obtain⟨n1,n2⟩:=Za hnx;have hl1:=h.l1;have hl2:=h.l2;have hl3:=h.l3;have hl4:=h.l4;have hl5:=h.l5;have q1:decide (0<=(k:Int))=true:=by simp
 have q2:decide (k<n)=true:=by simpa using hk
 have q3:O≠nb:=by omega
 have q4:O≠ob:=by omega
 have q5:ob≠nb:=by omega
 have q6:nb≠O:=by omega
 have q7:nb≠w.heap.size:=by omega
 have hkl:k<s.1.length:=by rw[h.len];exact hk
 cases hq:s.1[k] with
 |true=>
  have he:s.1[k]?=some true:=by rw[List.getElem?_eq_getElem hkl,hq]
  have b3:w.cell? ⟨O,k,none⟩=some (.bool true):=by rw[b1];simp[he]
  have HF:=hid (show RS w gb O ob nb base A n c (Xa s k) by rw[Zrr he];exact h);clear h b1 hq he hkl hnx ho g2 o2;go_enter Tryz.func186,Tryz.ntmps186;go_wp2;go_end0;exact⟨rfl,HF.out,Below.refl _ _⟩
 |false=>
  have he:s.1[k]?=some false:=by rw[List.getElem?_eq_getElem hkl,hq]
  have b3:w.cell? ⟨O,k,none⟩=some (.bool false):=by rw[b1];simp[he]
  have H:=hid h;have hgs:w.grownBy (w.setCell ⟨O,k,none⟩ (.bool true)) (some O):=Zn (Lb _ _) rfl _
  have Hho:=hid ((ho.kept hgs (by
   cases e:(Value.slice A2 s.2.length d2).ownBlock with
   |none=>exact .inl rfl
   |some b=>exact .inr fun e2=>by
             have:=(ho.lt b e).1
             simp at e2
             omega)).alloc (.cells #[.int .i64 k] 3))
  have hnb:some nb≠(Value.slice A2 s.2.length d2).ownBlock:=fun e=>by have:=(ho.lt _ e.symm).1;omega
  have hnO:some O≠(Value.slice A2 s.2.length d2).ownBlock:=fun e=>by have:=(ho.lt _ e.symm).1;omega
  have hno:some ob≠(Value.slice A2 s.2.length d2).ownBlock:=fun e=>by have:=(ho.lt _ e.symm).1;omega
  have hng:some gb≠(Value.slice A2 s.2.length d2).ownBlock:=fun e=>by have:=(ho.lt _ e.symm).1;omega
  have Hn:=hid hnx;have hzO:(w.setCell ⟨O,k,none⟩ (.bool true)).heap.size=w.heap.size:=by simp[World.setCell]
  have c3:((w.setCell ⟨O,k,none⟩ (.bool true)).alloc (.cells #[.int .i64 k] 3)).cell? ⟨w.heap.size,0,none⟩=some (.int .i64 k):=by
   have:=(Za (La (w.setCell ⟨O,k,none⟩ (.bool true)) (.cells #[.int .i64 k] 3))).1 0;rw[hzO] at this;simpa using this
  clear h b1 hq hkl hnx ho g2 o2;go_enter Tryz.func186,Tryz.ntmps186;go_wp2_with (refine X2 rfl _ _ rfl base _ s.2 rfl Hho.out w.heap.size k rfl c3 hl (by simp;omega) ?_;intro G cap w2 ho3 hg3 hor;have c4:w2.cell? ⟨nb,0,none⟩=some (.slice A2 s.2.length d2):=hg3.cell ((World.cell?_alloc_lt _ _ _ (by simp;omega)).trans ((Lj (Below.heap_setCell w ⟨O,k,none⟩ _ _ q6)).trans ((Za Hn.out).1 0))) hnb;have f4:w2.frozen? ⟨nb,0,none⟩=false:=(World.frozen?_of_block (hg3.block _ (by simp;omega) hnb)).trans ((World.frozen?_of_block (Below.heap_alloc _ _ _ (by simp;omega))).trans ((World.frozen?_of_block (Below.heap_setCell w ⟨O,k,none⟩ _ _ q6)).trans ((Za Hn.out).2 0))));go_end0;have hgw:(w.setCell ⟨O,k,none⟩ (.bool true)).grownBy w2 (Value.slice A2 s.2.length d2).ownBlock:=Zb (Lc _ _ _) hg3;have hG:=H.out;have hbl:∀ (j:Nat) (x:Obj),j≠O->j≠nb->j<base->w.heap[j]?=some x->(w2.setCell ⟨nb,0,none⟩ (.slice (some ⟨G,0,none⟩) (s.2.length+1) cap)).heap[j]?=some x:=by
   intro j x h1 h2 h3 h4;rw[Below.heap_setCell w2 _ _ _ h2,hgw.block j (by rw[hzO];omega) (fun e=>by have:=(Hho.out.lt j e.symm).1;omega),Below.heap_setCell w _ _ _ h1];exact h4
  have hsz2:=hgw.size;rw[hzO] at hsz2;refine⟨rfl,?_,?_⟩
  ·rw[Zoa he];refine⟨hbl _ _ (by omega) (by omega) (by omega) hG.g,hbl _ _ (by omega) (by omega) (by omega) hG.o,?_,⟨.slice (some ⟨G,0,none⟩) (s.2.length+1) cap,?_,?_⟩,by simpa using hG.len,hl1,hl2,hl3,hl4,by simp[World.setCell];omega⟩
   ·rw[Below.heap_setCell w2 _ _ _ (by simpa using q3),hgw.block O (by rw[hzO];omega) hnO];rw[show ((s.1.set k true).map Value.bool).toArray=((s.1.map Value.bool).toArray).setIfInBounds k (.bool true) by simp[List.map_set]];exact Vr hG.bs k _
   ·have:=hgw.block nb (by rw[hzO];omega) hnb;rw[Below.heap_setCell w _ _ _ (by simpa using q6)] at this;exact Vr (this.trans Hn.out) 0 _
   ·refine World.ownsRow.kept (w':=w2.setCell ⟨nb,0,none⟩ (.slice (some ⟨G,0,none⟩) (s.2.length+1) cap)) (row:=some nb) ho3 (Zn (Lb _ _) rfl _) (.inr fun e=>?_);have:=(ho3.lt nb e).1;omega
  ·refine Below.setCell ?_ (by simp;omega) _;exact ((Below.refl gb w).setCell (by simp;omega) _).trans ⟨hgw.os,hgw.tape,hgw.output,hgw.size,fun j hj=>hgw.block j (by rw[hzO];omega) (fun e=>by have:=(Hho.out.lt j e.symm).1;omega)⟩
theorem cf_le (l:List Bool):cf l<=l.length:=List.count_le_length
structure RI (g:Gph) (fr:List Nat) (w:World) (A:Option Addr) (c:Nat) (ex:Nat->Prop) (s:List Bool×List Nat) (W:World):Prop where
 rs:RS W w.heap.size (w.heap.size+1) (w.heap.size+1+1) (w.heap.size+1+1+1) (w.heap.size+1+1+1+1) A g.length c s
 inv:RInv g fr s ex
 low:Below w.heap.size w W
 meas:2*cf s.1+s.2.length<=2*g.length
theorem RI.enter {g:Gph} {fr:List Nat} {w W W':World} {A:Option Addr} {c k:Nat} {ex:Nat->Prop} {s:List Bool×List Nat} (h:RI g fr w A c ex s W) (hk:k<g.length) (hp:∃ f∈fr,Path g f k)
  (hrs:RS W' w.heap.size (w.heap.size+1) (w.heap.size+1+1) (w.heap.size+1+1+1) (w.heap.size+1+1+1+1) A g.length c (Xa s k)) (hb:Below w.heap.size W W'):RI g fr w A c ex (Xa s k) W':=
 ⟨hrs,h.inv.enter hk hp,h.low.trans hb,Nat.le_trans (Zdp s k) h.meas⟩
theorem RS.pop {W:World} {gb O ob nb base n c d b i:Nat} {A:Option Addr} {out:List Bool} {nx:List Nat} (h:RS W gb O ob nb base A n c (out,nx++[i]))
  (ho:W.ownsRow base 3 1 (.slice (some ⟨b,0,none⟩) (nx.length+1) d) (nx.length+1) ((nx++[i]).map Z4)):RS (W.setCell ⟨nb,0,none⟩ (.slice (some ⟨b,0,none⟩) nx.length d)) gb O ob nb base A n c (out,nx):=by
 have h1:=h.l1;have h2:=h.l2;have h3:=h.l3;have h4:=h.l4;obtain⟨v,hv,_⟩:=h.nx;have hbl:∀ (j:Nat) (x:Obj),j≠nb->W.heap[j]?=some x->(W.setCell ⟨nb,0,none⟩ (.slice (some ⟨b,0,none⟩) nx.length d)).heap[j]?=some x:=fun j x e hx=>(Below.heap_setCell W _ _ _ e).trans hx
 refine⟨hbl _ _ (by omega) h.g,hbl _ _ (by omega) h.o,hbl _ _ (by omega) h.bs,⟨.slice (some ⟨b,0,none⟩) nx.length d,Vr hv 0 _,?_⟩,h.len,h1,h2,h3,h4,by have:=h.l5;simpa [World.setCell] using this⟩;have hp:W.ownsRow base 3 1 (.slice (some ⟨b,0,none⟩) nx.length d) nx.length (nx.map Z4):=Jv (by rw[List.map_append] at ho;exact ho) (by simp);refine World.ownsRow.kept (w':=W.setCell ⟨nb,0,none⟩ (.slice (some ⟨b,0,none⟩) nx.length d)) (row:=some nb) hp (Zn (Lb _ _) rfl _) (.inr fun e=>?_);have:=(hp.lt nb e).1;omega
def Zto (g:Gph) (fr:List Nat) (w:World) (e:Ending) (w':World):Prop:=∃ (O:Nat) (out:List Bool),e=.returned (.slice (some ⟨O,0,none⟩) g.length g.length)/\w.heap.size<=O/\w'.heap[O]?=some (.cells (out.map Value.bool).toArray 4 (0,0))/\
      out.length=g.length/\(∀ k,out[k]?=some true↔∃ f∈fr,Path g f k)/\Below w.heap.size w w'
theorem Ztb (v vf:Value) (g:Gph) (fr:List Nat) (B:Nat) (w:World) (hB:B<=w.heap.size) (h:GraphAt w B v g) (hok:GOk g) (hf:NatsAt w B vf fr) (hfr:∀ f∈fr,f<g.length):
  Calls Tryz.prog 133 #[v,vf] w fun e w'=>Zto g fr w e w':=by
 have hlen:=hok.len;have hmk:=Zee g.length hlen;obtain⟨A,c,rfl,hm,hlc,hcm,hA⟩:=h.open_;obtain⟨Af,cfp,rfl,hmf,hlcf,hcmf,hAf⟩:=hf.open_;clear h hf;go_enter Tryz.func133,Tryz.ntmps133;go_wp2;obtain⟨wo,hwo⟩:∃ wo:World,wo=(((w.alloc (.cells #[.slice A g.length c] 141)).alloc (.cells (Array.replicate g.length (.bool false)) 4)).alloc (.cells #[.slice (some ⟨w.heap.size+1,0,none⟩) g.length g.length] 193)).alloc (.cells #[.slice none 0 0] 84):=⟨_,rfl⟩
 have h0:RI g fr w A c (fun _=>False) (List.replicate g.length false,[]) wo:=by
  have a0:=La w (.cells #[.slice A g.length c] 141);have a1:=La (w.alloc (.cells #[.slice A g.length c] 141)) (.cells (Array.replicate g.length (.bool false)) 4);have a2:=La ((w.alloc (.cells #[.slice A g.length c] 141)).alloc (.cells (Array.replicate g.length (.bool false)) 4)) (.cells #[.slice (some ⟨w.heap.size+1,0,none⟩) g.length g.length] 193);have a3:=La (((w.alloc (.cells #[.slice A g.length c] 141)).alloc (.cells (Array.replicate g.length (.bool false)) 4)).alloc (.cells #[.slice (some ⟨w.heap.size+1,0,none⟩) g.length g.length] 193)) (.cells #[.slice none 0 0] 84);simp only[World.size_alloc] at a1 a2 a3;refine⟨⟨?_,?_,?_,⟨.slice none 0 0,?_,World.ownsRow_nil _ _ _ _⟩,by simp,by omega,by omega,by omega,by omega,by rw[hwo];simp⟩,RInv.start g fr _ rfl,?_,?_⟩
  ·rw[hwo];exact Zc (Zc (Zc a0 _) _) _
  ·rw[hwo];exact Zc a2 _
  ·rw[hwo];rw[List.map_replicate,List.toArray_replicate];exact Zc (Zc a1 _) _
  ·rw[hwo];exact a3
  ·rw[hwo];exact ((((Below.refl w.heap.size w).alloc (Lf _) _).alloc (by simp) _).alloc (by simp;omega) _).alloc (by simp;omega) _
  ·have:=cf_le (List.replicate g.length false);simp at this ⊢;omega
 rw[<-hwo];clear hwo hmk;go_loopw [19] (fun s8 wr=>∃ k:Nat,k<=fr.length/\s8=.int .i64 k/\Hid (∃ s,RI g fr w A c (fun _=>False) s wr/\∀ f∈fr.take k,s.1[f]?=some true)) (fun s8 _=>fr.length-(intOf s8).toNat)
 case atStart=>exact⟨0,Ln _,rfl,_,h0,fun f hf=>by simp at hf⟩
 case round=>
  obtain⟨k,hkl,rfl,hI⟩:=hrel;clear h0
  by_cases hl:k<fr.length
  ·obtain⟨s,hR,hT⟩:=hI.out;obtain⟨f,b,off,hx,rfl,hbB,hcf⟩:=hAf.at1 hl;have hfm:f∈fr:=Ll hx;have hfl:=hfr f hfm;have hc1:=cur hR.low (by omega) hcf.1;have hcall:=Zqt f _ _ _ _ _ A g.length c s wr hfl hlen (by have:=hR.meas;omega) hR.rs;have HR:=hid hR;have HT:=hid hT;have Hx:=hid hx;clear hI hR hT hx hcf hAf;go_wp2_with fail;refine hcall.mono ?_;rintro e w' ⟨rfl,hrs,hb1⟩;go_wp2_with fail;go_roundw
   case rel=>
    refine⟨k+1,by omega,by go_num,Xa s f,HR.out.enter hfl ⟨f,hfm,.refl⟩ hrs hb1,fun f' hf'=>?_⟩;rw[List.take_add_one,Hx.out] at hf';simp only[Option.toList_some,List.mem_append,List.mem_singleton] at hf'
    rcases hf' with hf'|rfl
    ·exact U5 (HT.out f' hf')
    ·exact Jq (by rw[HR.out.inv.len];exact hfl)
   case measure=>simp[intOf];omega
  ·have HJ:=hid (show ∃ s,RI g fr w A c (fun _=>False) s wr/\∀ f∈fr,s.1[f]?=some true by
    have:=hI.out
    rwa [List.take_of_length_le (by omega)] at this)
   obtain⟨wo2,hwo2⟩:∃ wo2:World,wo2=wr:=⟨_,rfl⟩
   rw[<-hwo2] at HJ ⊢;clear hI hwo2;go_wp2;go_loopg [10] (2*g.length) (fun m s10 wr=>Hid (∃ s,RI g fr w A c (fun _=>False) s wr/\(∀ f∈fr,s.1[f]?=some true)/\2*cf s.1+s.2.length<=m))
   case atStart=>
    obtain⟨s,h1,h2⟩:=HJ.out;exact⟨s,h1,h2,h1.meas⟩
   case round=>
    obtain⟨⟨out,next⟩,hR,hT,hM⟩:=hrel.out;clear hrel HJ;obtain⟨v,hnx,ho⟩:=hR.rs.nx;have hl5:=hR.rs.l5
    rcases List.eq_nil_or_concat next with rfl|⟨nx,i,e⟩
    ·obtain⟨A2,d2,rfl,_,_,_,_⟩:=Z5 ho;obtain⟨n1,n2⟩:=Za hnx;obtain⟨o1,o2⟩:=Za hR.rs.o;have HR:=hid hR;have HT:=hid hT;clear hR hT hM hnx ho;go_wp2;go_ret;exact⟨w.heap.size+1,out,rfl,by omega,HR.out.rs.bs,HR.out.inv.len,HR.out.inv.all HT.out,HR.out.low⟩
    ·rw[List.concat_eq_append] at e;subst e;have ho':=ho;simp only[List.length_append,List.length_cons,List.length_nil,Nat.zero_add] at ho';obtain⟨A2,d2,rfl,hd1,hd2,_,_⟩:=Z5 ho';have hd3:nx.length<=d2:=by omega
     obtain⟨b,rfl,hb1,hb2,hci⟩:=Jc (k:=nx.length) (x:=i) ho' (by simp);obtain⟨n1,n2⟩:=Za hnx;obtain⟨g1,g2⟩:=Za hR.rs.g;have hpop:=RInv.pop hR.inv;have hig:i<g.length:=by
      have:=(Le hpop.2).1
      rwa [hpop.1.len] at this
     obtain⟨r,b3,off,hx,rfl,hbB,v1,e0,hr⟩:=hA.at1 hig;have hrow:=Zpf hx;have hrm:r∈g:=Ll hx;replace e0:=cur hR.low (by omega) e0;have hrw:=hr.keep natR.keeps (w':=wr) fun p hp=>hR.low.cell (by omega)
     obtain⟨A1,c1,rfl,m1,_,_,hA1⟩:=hr.open_;have hR2:RI g fr w (some ⟨b3,off,none⟩) c (fun x=>x=i) (out,nx) (wr.setCell ⟨w.heap.size+1+1+1,0,none⟩ (.slice (some ⟨b,0,none⟩) nx.length d2)):=
      ⟨hR.rs.pop ho',hpop.1,hR.low.setCell (by simp;omega) _,by have:=hR.meas;simp at this ⊢;omega⟩
     have HR:=hid hR2;have HT:=hid hT;have HM:=hid hM;have hlen2:nx.length<=131072:=by have:=hR.meas;simp at this;omega
     have HP:=hid (show ∃ f∈fr,Path g f i from hR.inv.path i hpop.2);have Hrow:=hid hrow;have Hx:=hid hx;have HA1:=hid hA1;have q1:w.heap.size+1+1+1≠b:=by omega
     have q2:b3≠w.heap.size+1+1+1:=by omega
     have q3:w.heap.size≠b3:=by omega
     clear hR hR2 hT hM hnx ho ho' hr hrw hx hrow hpop g2 hA1;go_upto_region 12 with (fail)
     iterate 23 go_step
     obtain⟨wo3,hwo3⟩:∃ wo3:World,wo3=wr.setCell ⟨w.heap.size+1+1+1,0,none⟩ (.slice (some ⟨b,0,none⟩) nx.length d2):=⟨_,rfl⟩
     rw[<-hwo3] at HR ⊢;clear hwo3 n1 n2 g1 e0 hci q1 q2 q3 hd1 hd2 hd3;go_loopw [46] (fun s8 wi=>∃ j:Nat,j<=r.length/\s8=.int .i64 j/\Hid (∃ s,RI g fr w (some ⟨b3,off,none⟩) c (fun x=>x=i) s wi/\(∀ f∈fr,s.1[f]?=some true)/\(∀ f∈r.take j,s.1[f]?=some true)/\2*cf s.1+s.2.length+1<=gk)) (fun s8 _=>r.length-(intOf s8).toNat)
     case atStart=>exact⟨0,Ln _,rfl,_,HR.out,HT.out,fun f hf=>by simp at hf,by have:=HM.out;simp at this ⊢;omega⟩
     case round=>
      obtain⟨j,hjl,rfl,hJ⟩:=hrel;clear HR HT HM
      by_cases hl2:j<r.length
      ·obtain⟨s,hR,hT,hT2,hM⟩:=hJ.out;obtain⟨f,b4,off4,hx,rfl,hbB4,hcf⟩:=HA1.out.at1 hl2;have hfr2:f∈r:=Ll hx;have hfl:=hok.lt r hrm f hfr2;have hc1:=cur hR.low (by omega) hcf.1;have hcall:=Zqt f _ _ _ _ _ _ g.length c s wr hfl hlen (by have:=hR.meas;omega) hR.rs;have HR:=hid hR;have HT:=hid hT;have HT2:=hid hT2;have HM:=hid hM;have Hx2:=hid hx;clear hJ hR hT hT2 hM hx hcf;go_wp2_with fail;refine hcall.mono ?_;rintro e w' ⟨rfl,hrs,hb1⟩;go_wp2_with fail;go_roundw
       case rel=>
        refine⟨j+1,by omega,by go_num,Xa s f,HR.out.enter hfl ?_ hrs hb1,fun f' hf'=>U5 (HT.out f' hf'),fun f' hf'=>?_,?_⟩
        ·obtain⟨f0,h1,h2⟩:=HP.out;exact⟨f0,h1,h2.step (by rw[Hrow.out];exact hfr2)⟩
        ·rw[List.take_add_one,Hx2.out] at hf';simp only[Option.toList_some,List.mem_append,List.mem_singleton] at hf'
         rcases hf' with hf'|rfl
         ·exact U5 (HT2.out f' hf')
         ·exact Jq (by rw[HR.out.inv.len];exact hfl)
        ·have:=Zdp s f;have:=HM.out;omega
       case measure=>simp[intOf];omega
      ·have HJ:=hid (show ∃ s,RI g fr w (some ⟨b3,off,none⟩) c (fun _=>False) s wr/\(∀ f∈fr,s.1[f]?=some true)/\2*cf s.1+s.2.length+1<=gk by
        obtain⟨s,hR,hT,hT2,hM⟩:=hJ.out
        rw[List.take_of_length_le (by omega)] at hT2
        exact⟨s,⟨hR.rs,hR.inv.over (by rw[Hrow.out];exact hT2),hR.low,hR.meas⟩,hT,hM⟩)
       clear hJ;go_wp2;go_roundg (gk-1)
       case measure=>obtain⟨s,_,_,h⟩:=HJ.out;omega
       case rel=>
        obtain⟨s,h1,h2,h3⟩:=HJ.out;exact⟨s,h1,h2,by omega⟩
end

/- The contract of names. Conditions in it. -/
import Derived.Test.YtlcogjllnbfneaaGreatENd
import Derived.Deep.DeepCutAuto
set_option maxHeartbeats 6000000
set_option maxRecDepth 100000
set_option linter.all false
namespace Go.Proofs.YtlcogjllnbfneaaGreat
open Lib(hid)
section
open Go.RowKit
theorem Ydx {P:Program} {o:Oper} {a:Act} {N J K:Act->World->Prop} {Q:Exit->Act->World->Prop} (r:Result Next) (h:o.upon P a N (Exit.then J Q) r):o.upon P a N (Exit.then K Q) r:=by
 cases r with
 |ok n w'=>cases n<;>exact h
 |halt x w'=>cases x<;>exact h
theorem Ydu {P:Program} {ops:Array Oper} {K:Act->World->Prop} {Q:Exit->Act->World->Prop} (J:Act->World->Prop):∀ (n:Nat) (l:List Oper) (a:Act) (w:World),wpList P ops (Exit.then J Q) (l.take n) a w->(∀ a w,J a w->wpList P ops (Exit.then K Q) (l.drop n) a w)->wpList P ops (Exit.then K Q) l a w
 |0,l,a,w,h,h2=>h2 a w h
 |n+1,[],a,w,h,h2=>h2 a w h
 |n+1,o::l,a,w,h,h2=>by
  rw[List.take_succ_cons] at h;unfold wpList at h ⊢
  split
  ·rename_i hw
   rw[if_pos hw] at h;refine h.imp (fun h=>?_) (fun h=>h);exact Oper.wp_mono (fun a w ha=>Ydu J n l a w ha h2) (Ydx _ h)
  ·rename_i hw
   rw[if_neg hw] at h;exact Ydu J n l _ w h h2
theorem op_t {a b:Nat} (h:(a == b)=true):((a:Int) != (b:Int))=false:=by rw[eq_of_beq h];simp
theorem op_f {a b:Nat} (h:(a == b)=false):((a:Int) != (b:Int))=true:=by have:=ne_of_beq_false h;simp;omega
theorem Ydw (a b:Nat):((a:Int) != (b:Int))= !(a == b):=by
 cases h:a == b
 ·exact op_f h
 ·exact op_t h
def Ydt (t:Array Value):Nat->List Value->Array Value
 |_,[]=>t
 |s,u::l=>Ydt (t.setIfInBounds s u) (s+1) l
def ups (u:Nat->Value):Nat->Nat->List Value
 |_,0=>[]
 |s,m+1=>u s::ups u (s+1) m
theorem Yfb {u v:Nat->Value}:∀ (m s:Nat),(∀ i,s<=i->u i=v i)->ups u s m=ups v s m
 |0,_,_=>rfl
 |m+1,s,h=>by rw[ups,ups,h s (Nat.le_refl s),Yfb m (s+1) fun i hi=>h i (by omega)]
theorem Yfc:∀ (us:List Value) (s:Nat),∃ u,us=ups u s us.length
 |[],_=>⟨fun _=>undef,rfl⟩
 |x::us,s=>by
  obtain⟨u,hu⟩:=Yfc us (s+1);refine⟨fun i=>if i=s then x else u i,?_⟩;rw[List.length_cons,ups,if_pos rfl,Yfb (v:=u) us.length (s+1) (fun i hi=>if_neg (by omega)),<-hu]
theorem Yds {P:Program} {ops:Array Oper} {K:Act->World->Prop} {Q:Exit->Act->World->Prop} (s m:Nat) (r:Bool) (n:Nat) {l:List Oper} {t:Array Value} {d:List Deferred} {w:World}
  (h:wpList P ops (Exit.then (fun a' w'=>w'=w/\∃ us:List Value,us.length=m/\a'=⟨Ydt t s (us++[.bool r]),d⟩) Q) (l.take n) ⟨t,d⟩ w) (h2:∀ (u:Nat->Value) (q:Bool),Hid (q=r)->wpList P ops (Exit.then K Q) (l.drop n) ⟨Ydt t s (ups u 0 m++[.bool q]),d⟩ w):wpList P ops (Exit.then K Q) l ⟨t,d⟩ w:=
 Ydu _ n l _ w h fun a' w' ⟨hw,us,hu,ha⟩=>by
  obtain⟨u,hu'⟩:=Yfc us 0;rw[hu] at hu';subst hw ha;rw[hu'];exact h2 u r (hid rfl)
attribute [local go_sem] Ydt ups List.cons_append List.nil_append Lg Li Lh List.drop_succ_cons List.drop_zero List.take_succ_cons List.take_zero
theorem Ydv (vm:Value) (wb cb mb:Nat) (pt:GPt) (x:GIns) (A4 A5:Option Addr) (d4 d5:Nat) (w:World) (sh:Shp) (hop:Y0 x.op=some sh) (n1: -9223372036854775808<=x.n) (n2:x.n<=9223372036854775807) (m4:x.args.length<=9223372036854775807) (m5:x.lb9.length<=9223372036854775807)
  (hbox:w.cell? ⟨cb,0,none⟩=some (.pointer (some ⟨wb,0,none⟩))) (hlt:cb<w.heap.size) (hwl:wb<w.heap.size) (c1:w.cell? ⟨wb,1,none⟩=some (.map (some mb))) (hmb:w.heap[mb]?=some shapeObj):
  Calls Tryz.prog 165 #[.agg #[.int .i64 pt.1,.int .i64 pt.2.1,.int .i64 pt.2.2],.agg #[.int .u8 x.op,.string ⟨x.dst.toArray⟩,.string ⟨x.a.toArray⟩,.string ⟨x.b.toArray⟩,.int .i64 x.n,.string ⟨x.fn.toArray⟩,.slice A4 x.args.length d4,.slice A5 x.lb9.length d5],.pointer (some ⟨cb,0,none⟩)] w fun e w'=>
   e=.returned (.bool (Zm x))/\Below w.heap.size w w':=by
 have hcn:cb≠w.heap.size:=by omega
 have hwn:wb≠w.heap.size:=by omega
 have hmbl:=Ze hmb;obtain⟨op,dst,a,b,n,fn,args,lb9⟩:=x;obtain⟨sd,sa,sb,sn,sf,sg,sl⟩:=sh;simp only at hop n1 n2 m4 m5 ⊢
 have HE:=hid (show Zm ⟨op,dst,a,b,n,fn,args,lb9⟩=(((!sd&& !dst.isEmpty)||(!sa&& !a.isEmpty)||(!sb&& !b.isEmpty)||(!sn&& !(n == 0))||(!sf&& !fn.isEmpty)||(!sg&& !args.isEmpty)||(!sl&& !lb9.isEmpty)||
                                                                          (sd&&dst.isEmpty&& !Yj op)||(sa&&a.isEmpty&& !(op == 14))||(sb&&b.isEmpty)||(sf&&fn.isEmpty))||Y6 ⟨op,dst,a,b,n,fn,args,lb9⟩) by simp[Zm,Y1,hop])
 obtain⟨w2,hw2⟩:∃ w2:World,w2=(w.alloc (.cells #[.int .i64 pt.1,.int .i64 pt.2.1,.int .i64 pt.2.2] 41)).alloc (.cells #[.int .u8 (op:Int),.string ⟨dst.toArray⟩,.string ⟨a.toArray⟩,.string ⟨b.toArray⟩,.int .i64 n,.string ⟨fn.toArray⟩,.slice A4 args.length d4,.slice A5 lb9.length d5] 25):=⟨_,rfl⟩
 have hb2:Below w.heap.size w w2:=by rw[hw2];exact ((Below.refl w.heap.size w).alloc (Lf _) _).alloc (by simp) _
 have hx2:w2.heap[w.heap.size+1]?=some (.cells #[.int .u8 (op:Int),.string ⟨dst.toArray⟩,.string ⟨a.toArray⟩,.string ⟨b.toArray⟩,.int .i64 n,.string ⟨fn.toArray⟩,.slice A4 args.length d4,.slice A5 lb9.length d5] 25 (0,0)):=by
  have:=La (w.alloc (.cells #[.int .i64 pt.1,.int .i64 pt.2.1,.int .i64 pt.2.2] 41)) (.cells #[.int .u8 (op:Int),.string ⟨dst.toArray⟩,.string ⟨a.toArray⟩,.string ⟨b.toArray⟩,.int .i64 n,.string ⟨fn.toArray⟩,.slice A4 args.length d4,.slice A5 lb9.length d5] 25);rw[hw2];simpa using this
 have hs2:w2.heap.size=w.heap.size+2:=by rw[hw2];simp
 have hm2:=(hb2.block mb hmbl).trans hmb;have hlkA:=Zu (w:=w2.drew) hm2 op;have hlkB:=fun o1=>Zu (w:=(w2.alloc o1).drew) (Zc hm2 o1) op
 simp only[Ym,hop,shpV,Option.getD_some,Option.getD_none,Option.isSome_some,Option.isSome_none] at hlkA hlkB;have hbox2:=cur hb2 hlt hbox;have c12:=cur hb2 hwl c1;obtain⟨k1,k2⟩:=Za hx2;have hl1:cb<w2.heap.size:=by omega
 have hl2:wb<w2.heap.size:=by omega
 have hl3:w.heap.size+1<w2.heap.size:=by omega
 have hl4:w.heap.size+1≠w2.heap.size:=by omega
 have Hb2:=hid hb2;have Hx2:=hid hx2;have Hs2:=hid hs2;have Hop:=hid hop;have h256:op<256:=by
  rcases Nat.lt_or_ge op 15 with h|h
  ·omega
  ·obtain⟨k,rfl⟩:=Nat.exists_eq_add_of_le' h
   cases hop
 have hcl:=fun w'=>Y9 op w' h256
 clear hop;go_enter Tryz.func165,Tryz.ntmps165;go_wp2_with fail;rw[<-hw2];clear hw2 hx2 hm2 hbox c1 hmb hb2 hs2;go_region;clear hlkA hlkB;go_upto_region 2 with (fail)
 simp only[List.append];obtain⟨w3,hw3⟩:∃ w3:World,w3=(w2.alloc (.cells (#[.bool sd,.bool sa,.bool sb,.bool sn,.bool sf,.bool sg,.bool sl]) 211)).drew:=⟨_,rfl⟩
 obtain⟨gs,hgs⟩:∃ gs,gs=w2.heap.size:=⟨_,rfl⟩
 obtain⟨gx,hgx⟩:∃ gx,gx=w.heap.size+1:=⟨_,rfl⟩
 rw[<-hw3,<-hgs,<-hgx];have hs3:=La w2 (.cells (#[.bool sd,.bool sa,.bool sb,.bool sn,.bool sf,.bool sg,.bool sl]) 211);obtain⟨k3,k4⟩:=Za (w:=w3) (g:=gs) (by rw[hw3,hgs];exact hs3);obtain⟨k1,k2⟩:=Za (w:=w3) (g:=gx) (by rw[hw3,hgx];exact Zc Hx2.out _);have Hb3:=hid (show Below w.heap.size w w3 by rw[hw3];exact (Hb2.out.alloc (by have:=Hs2.out;omega) _).drew);clear hs3 hw3 hgs hgx k2 k4 hbox2 c12 hl1 hl2 hl3 hl4;refine wp_region_lit ?_;refine Yds 18 12 ((!sd&& !dst.isEmpty)) 13 ?_ ?_
 ·simp only[List.take_succ_cons,List.take_zero]
  cases sd<;>cases hx:dst.isEmpty<;>(go_wp2_with fail;refine' ⟨by first|rfl|trivial,[_,_,_,_,_,_,_,_,_,_,_,_],rfl,_⟩;rotate_right;simp only[go_sem];rfl)
 intro _ r1 Hr1;simp only[List.drop_succ_cons,List.drop_zero,Ydt,ups,List.cons_append,List.nil_append,Lg,Li,Lh];refine Yds 31 9 ((r1||(!sa&& !a.isEmpty))) 10 ?_ ?_
 ·simp only[List.take_succ_cons,List.take_zero]
  cases r1<;>cases sa<;>cases hx:a.isEmpty<;>(go_wp2_with fail;refine' ⟨by first|rfl|trivial,[_,_,_,_,_,_,_,_,_],rfl,_⟩;rotate_right;simp only[go_sem];rfl)
 intro _ r2 Hr2;simp only[List.drop_succ_cons,List.drop_zero,Ydt,ups,List.cons_append,List.nil_append,Lg,Li,Lh];refine Yds 41 9 ((r2||(!sb&& !b.isEmpty))) 10 ?_ ?_
 ·simp only[List.take_succ_cons,List.take_zero]
  cases r2<;>cases sb<;>cases hx:b.isEmpty<;>(go_wp2_with fail;refine' ⟨by first|rfl|trivial,[_,_,_,_,_,_,_,_,_],rfl,_⟩;rotate_right;simp only[go_sem];rfl)
 intro _ r3 Hr3;simp only[List.drop_succ_cons,List.drop_zero,Ydt,ups,List.cons_append,List.nil_append,Lg,Li,Lh];refine Yds 51 9 ((r3||(!sn&& !(n == 0)))) 10 ?_ ?_
 ·simp only[List.take_succ_cons,List.take_zero]
  cases r3<;>cases sn<;>cases hx:(n == 0)<;>((try (have hz:n=0:=eq_of_beq hx;subst hz));(try (have hz:(n != 0)=true:=bne_iff_ne.2 (ne_of_beq_false hx)));go_wp2_with fail;refine' ⟨by first|rfl|trivial,[_,_,_,_,_,_,_,_,_],rfl,_⟩;rotate_right;simp only[go_sem];rfl)
 intro _ r4 Hr4;simp only[List.drop_succ_cons,List.drop_zero,Ydt,ups,List.cons_append,List.nil_append,Lg,Li,Lh];refine Yds 61 9 ((r4||(!sf&& !fn.isEmpty))) 10 ?_ ?_
 ·simp only[List.take_succ_cons,List.take_zero]
  cases r4<;>cases sf<;>cases hx:fn.isEmpty<;>(go_wp2_with fail;refine' ⟨by first|rfl|trivial,[_,_,_,_,_,_,_,_,_],rfl,_⟩;rotate_right;simp only[go_sem];rfl)
 intro _ r5 Hr5;simp only[List.drop_succ_cons,List.drop_zero,Ydt,ups,List.cons_append,List.nil_append,Lg,Li,Lh];refine Yds 71 10 ((r5||(!sg&& !args.isEmpty))) 11 ?_ ?_
 ·simp only[List.take_succ_cons,List.take_zero]
  cases r5<;>cases sg<;>cases hx:args.isEmpty<;>((try (obtain rfl:=List.isEmpty_iff.1 hx));(try (have hx':0<args.length:=List.length_pos_iff.2 (List.isEmpty_eq_false_iff.1 hx)));go_wp2_with fail;refine' ⟨by first|rfl|trivial,[_,_,_,_,_,_,_,_,_,_],rfl,_⟩;rotate_right;simp only[go_sem];rfl)
 intro _ r6 Hr6;simp only[List.drop_succ_cons,List.drop_zero,Ydt,ups,List.cons_append,List.nil_append,Lg,Li,Lh];refine Yds 82 9 ((r6||(!sl&& !lb9.isEmpty))) 10 ?_ ?_
 ·simp only[List.take_succ_cons,List.take_zero]
  cases r6<;>cases sl<;>cases hx:lb9.isEmpty<;>((try (obtain rfl:=List.isEmpty_iff.1 hx));(try (have hx':0<lb9.length:=List.length_pos_iff.2 (List.isEmpty_eq_false_iff.1 hx)));go_wp2_with fail;refine' ⟨by first|rfl|trivial,[_,_,_,_,_,_,_,_,_],rfl,_⟩;rotate_right;simp only[go_sem];rfl)
 intro _ r7 Hr7;simp only[List.drop_succ_cons,List.drop_zero,Ydt,ups,List.cons_append,List.nil_append,Lg,Li,Lh];refine wpList_nil ?_
 cases r7 with
 |true=>
  have HR:=hid (show Zm ⟨op,dst,a,b,n,fn,args,lb9⟩=true by rw[HE.out,<-Hr1.out,<-Hr2.out,<-Hr3.out,<-Hr4.out,<-Hr5.out,<-Hr6.out,<-Hr7.out];rfl);go_wp2_with fail;go_ret;exact⟨by rw[HR.out];rfl,Hb3.out⟩
 |false=>
  have Hq:=hid (show Zm ⟨op,dst,a,b,n,fn,args,lb9⟩=((((sd&&dst.isEmpty&& !Yj op)||(sa&&a.isEmpty&& !(op == 14)))||(sb&&b.isEmpty))||(sf&&fn.isEmpty)||Y6 ⟨op,dst,a,b,n,fn,args,lb9⟩) by rw[HE.out,<-Hr1.out,<-Hr2.out,<-Hr3.out,<-Hr4.out,<-Hr5.out,<-Hr6.out,<-Hr7.out,Bool.false_or]);go_upto_region 4 with (fail)
  refine wp_region_lit ?_;refine Yds 92 13 ((sd&&dst.isEmpty&& !Yj op)) 14 ?_ ?_
  ·simp only[List.take_succ_cons,List.take_zero]
   cases sd<;>cases hx:dst.isEmpty<;>cases hy:Yj op<;>(rw[hy] at hcl;go_wp2_with (go_at_call 161;refine (hcl _).mono ?_;rintro e w' ⟨rfl,rfl⟩);refine' ⟨by first|rfl|trivial,[_,_,_,_,_,_,_,_,_,_,_,_,_],rfl,_⟩;rotate_right;simp only[go_sem];rfl)
  intro _ q1 Hq1;simp only[List.drop_succ_cons,List.drop_zero,Ydt,ups,List.cons_append,List.nil_append,Lg,Li,Lh];refine Yds 106 13 ((q1||(sa&&a.isEmpty&& !(op == 14)))) 14 ?_ ?_
  ·simp only[List.take_succ_cons,List.take_zero]
   cases q1<;>cases sa<;>cases hx:a.isEmpty<;>cases hy:op == 14<;>((try (have hz:((op:Int) != 14)=false:=op_t hy));(try (have hz:((op:Int) != 14)=true:=op_f hy));go_wp2_with fail;refine' ⟨by first|rfl|trivial,[_,_,_,_,_,_,_,_,_,_,_,_,_],rfl,_⟩;rotate_right;simp only[go_sem];rfl)
  intro _ q2 Hq2;simp only[List.drop_succ_cons,List.drop_zero,Ydt,ups,List.cons_append,List.nil_append,Lg,Li,Lh];refine Yds 120 8 ((q2||(sb&&b.isEmpty))) 9 ?_ ?_
  ·simp only[List.take_succ_cons,List.take_zero]
   cases q2<;>cases sb<;>cases hx:b.isEmpty<;>(go_wp2_with fail;refine' ⟨by first|rfl|trivial,[_,_,_,_,_,_,_,_],rfl,_⟩;rotate_right;simp only[go_sem];rfl)
  intro _ q3 Hq3;simp only[List.drop_succ_cons,List.drop_zero,Ydt,ups,List.cons_append,List.nil_append,Lg,Li,Lh];refine Yds 129 7 ((q3||(sf&&fn.isEmpty))) 8 ?_ ?_
  ·simp only[List.take_succ_cons,List.take_zero]
   cases q3<;>cases sf<;>cases hx:fn.isEmpty<;>(go_wp2_with fail;refine' ⟨by first|rfl|trivial,[_,_,_,_,_,_,_],rfl,_⟩;rotate_right;simp only[go_sem];rfl)
  intro _ q4 Hq4;simp only[List.drop_succ_cons,List.drop_zero,Ydt,ups,List.cons_append,List.nil_append,Lg,Li,Lh];refine wpList_nil ?_;rw[<-Hq1.out,<-Hq2.out,<-Hq3.out,<-Hq4.out] at Hq
  cases q4 with
  |true=>
   have HR:=hid (show Zm ⟨op,dst,a,b,n,fn,args,lb9⟩=true by rw[Hq.out];rfl);go_wp2_with fail;go_ret;exact⟨by rw[HR.out];rfl,Hb3.out⟩
  |false=>
   have HR:=hid (show Zm ⟨op,dst,a,b,n,fn,args,lb9⟩=Y6 ⟨op,dst,a,b,n,fn,args,lb9⟩ by rw[Hq.out,Bool.false_or]);clear hcl Hq1 Hq2 Hq3 Hq4 Hr1 Hr2 Hr3 Hr4 Hr5 Hr6 Hr7;have HB:=hid (show (Below w.heap.size w w3) from Hb3.out);have hx0:w3.cell? ⟨gx,0,none⟩=some (.int .u8 op):=k1 0;have hx4:w3.cell? ⟨gx,4,none⟩=some (.int .i64 n):=k1 4;have hx6:w3.cell? ⟨gx,6,none⟩=some (.slice A4 args.length d4):=k1 6;have hx7:w3.cell? ⟨gx,7,none⟩=some (.slice A5 lb9.length d5):=k1 7;clear k1 k3 Hq Hb3;have hdef:Y6 ⟨op,dst,a,b,n,fn,args,lb9⟩=if op=1\/op=2 then decide (n<1)||decide (64<n) else if op=7 then decide (n<0)||decide (64<=n) else if op=6 then args.isEmpty|| !(args.length == lb9.length) else if op=12 then !(lb9.length == 2) else if op=13 then !(lb9.length == 1) else false:=rfl
   have HD:=hid (HR.out.trans hdef);clear hdef HR
   by_cases o1:op=1\/op=2
   ·have HV:=hid (HD.out.trans (if_pos o1));clear HD
    by_cases q1:n<1
    ·rcases o1 with rfl|rfl<;>(go_wp2_with fail;go_ret;exact⟨by rw[HV.out];simp[q1],HB.out⟩)
    ·by_cases q2:64<n<;>rcases o1 with rfl|rfl<;>(go_wp2_with fail;go_ret;exact⟨by rw[HV.out];simp[q1,q2],HB.out⟩)
   ·have HD2:=hid (HD.out.trans (if_neg o1));have p1:¬ (op:Int)=1:=by omega
    have p2:¬ (op:Int)=2:=by omega
    clear HD o1
    by_cases o1:op=7
    ·have HV:=hid (HD2.out.trans (if_pos o1));clear HD2;subst o1
     by_cases q1:n<0
     ·go_wp2_with fail;go_ret;exact⟨by rw[HV.out];simp[q1],HB.out⟩
     ·by_cases q2:64<=n<;>(go_wp2_with fail;go_ret;exact⟨by rw[HV.out];simp[q1,q2],HB.out⟩)
    ·have HD3:=hid (HD2.out.trans (if_neg o1));have p3:¬ (op:Int)=7:=by omega
     clear HD2 o1
     by_cases o1:op=6
     ·have HV:=hid (HD3.out.trans (if_pos o1));clear HD3;subst o1
      cases hag:args.isEmpty with
      |true=>
       obtain rfl:=List.isEmpty_iff.1 hag;go_wp2_with fail;go_ret;exact⟨by rw[HV.out];rfl,HB.out⟩
      |false=>
       have hpos:0<args.length:=List.length_pos_iff.2 (List.isEmpty_eq_false_iff.1 hag);have hne:((args.length:Int) == 0)=false:=by rw[beq_eq_false_iff_ne];omega
       go_wp2_with fail;go_ret;exact⟨by rw[HV.out,hag,Bool.false_or];first|exact Ydw _ _|exact congrArg (fun b=>Ending.returned (Value.bool b)) (Ydw _ _),HB.out⟩
     ·have HD4:=hid (HD3.out.trans (if_neg o1));have p4:¬ (op:Int)=6:=by omega
      clear HD3 o1
      by_cases o1:op=12
      ·have HV:=hid (HD4.out.trans (if_pos o1));clear HD4;subst o1;go_wp2_with fail;go_ret;exact⟨by rw[HV.out];first|exact Ydw _ 2|exact congrArg (fun b=>Ending.returned (Value.bool b)) (Ydw _ 2),HB.out⟩
      ·have HD5:=hid (HD4.out.trans (if_neg o1));have p5:¬ (op:Int)=12:=by omega
       clear HD4 o1
       by_cases o1:op=13
       ·have HV:=hid (HD5.out.trans (if_pos o1));clear HD5;subst o1;go_wp2_with fail;go_ret;exact⟨by rw[HV.out];first|exact Ydw _ 1|exact congrArg (fun b=>Ending.returned (Value.bool b)) (Ydw _ 1),HB.out⟩
       ·have HV:=hid (HD5.out.trans (if_neg o1));have p6:¬ (op:Int)=13:=by omega
        clear HD5 o1;go_wp2_with fail;go_ret;exact⟨by rw[HV.out];rfl,HB.out⟩
end
section
open Go.RowKit
theorem Zel (vm:Value) (wb cb mb:Nat) (pt:GPt) (x:GIns) (A4 A5:Option Addr) (d4 d5:Nat) (w:World) (hop:Y0 x.op=none) (n1: -9223372036854775808<=x.n) (n2:x.n<=9223372036854775807) (m4:x.args.length<=9223372036854775807) (m5:x.lb9.length<=9223372036854775807)
  (hbox:w.cell? ⟨cb,0,none⟩=some (.pointer (some ⟨wb,0,none⟩))) (hlt:cb<w.heap.size) (hwl:wb<w.heap.size) (c1:w.cell? ⟨wb,1,none⟩=some (.map (some mb))) (hmb:w.heap[mb]?=some shapeObj):
  Calls Tryz.prog 165 #[.agg #[.int .i64 pt.1,.int .i64 pt.2.1,.int .i64 pt.2.2],.agg #[.int .u8 x.op,.string ⟨x.dst.toArray⟩,.string ⟨x.a.toArray⟩,.string ⟨x.b.toArray⟩,.int .i64 x.n,.string ⟨x.fn.toArray⟩,.slice A4 x.args.length d4,.slice A5 x.lb9.length d5],.pointer (some ⟨cb,0,none⟩)] w fun e w'=>
   e=.returned (.bool (Zm x))/\Below w.heap.size w w':=by
 have hcn:cb≠w.heap.size:=by omega
 have hwn:wb≠w.heap.size:=by omega
 have hmbl:=Ze hmb;obtain⟨op,dst,a,b,n,fn,args,lb9⟩:=x;simp only at hop n1 n2 m4 m5 ⊢;have HE:=hid (show Zm ⟨op,dst,a,b,n,fn,args,lb9⟩=true by simp[Zm,Y1,hop]);obtain⟨w2,hw2⟩:∃ w2:World,w2=(w.alloc (.cells #[.int .i64 pt.1,.int .i64 pt.2.1,.int .i64 pt.2.2] 41)).alloc (.cells #[.int .u8 (op:Int),.string ⟨dst.toArray⟩,.string ⟨a.toArray⟩,.string ⟨b.toArray⟩,.int .i64 n,.string ⟨fn.toArray⟩,.slice A4 args.length d4,.slice A5 lb9.length d5] 25):=⟨_,rfl⟩
 have hb2:Below w.heap.size w w2:=by rw[hw2];exact ((Below.refl w.heap.size w).alloc (Lf _) _).alloc (by simp) _
 have hx2:w2.heap[w.heap.size+1]?=some (.cells #[.int .u8 (op:Int),.string ⟨dst.toArray⟩,.string ⟨a.toArray⟩,.string ⟨b.toArray⟩,.int .i64 n,.string ⟨fn.toArray⟩,.slice A4 args.length d4,.slice A5 lb9.length d5] 25 (0,0)):=by
  have:=La (w.alloc (.cells #[.int .i64 pt.1,.int .i64 pt.2.1,.int .i64 pt.2.2] 41)) (.cells #[.int .u8 (op:Int),.string ⟨dst.toArray⟩,.string ⟨a.toArray⟩,.string ⟨b.toArray⟩,.int .i64 n,.string ⟨fn.toArray⟩,.slice A4 args.length d4,.slice A5 lb9.length d5] 25);rw[hw2];simpa using this
 have hs2:w2.heap.size=w.heap.size+2:=by rw[hw2];simp
 have hm2:=(hb2.block mb hmbl).trans hmb;have hlkA:=Zu (w:=w2.drew) hm2 op;have hlkB:=fun o1=>Zu (w:=(w2.alloc o1).drew) (Zc hm2 o1) op
 simp only[Ym,hop,shpV,Option.getD_some,Option.getD_none,Option.isSome_some,Option.isSome_none] at hlkA hlkB;have hbox2:=cur hb2 hlt hbox;have c12:=cur hb2 hwl c1;obtain⟨k1,k2⟩:=Za hx2;have hl1:cb<w2.heap.size:=by omega
 have hl2:wb<w2.heap.size:=by omega
 have hl3:w.heap.size+1<w2.heap.size:=by omega
 have hl4:w.heap.size+1≠w2.heap.size:=by omega
 have Hb2:=hid hb2;have Hx2:=hid hx2;have Hs2:=hid hs2;go_enter Tryz.func165,Tryz.ntmps165;go_wp2_with fail;rw[<-hw2];clear hw2 hx2 hm2 hbox c1 hmb hb2 hs2;go_region;clear hlkA hlkB;go_upto_region 2 with (fail)
 simp only[List.append];obtain⟨w3,hw3⟩:∃ w3:World,w3=(w2.alloc (.cells (#[.bool false,.bool false,.bool false,.bool false,.bool false,.bool false,.bool false]) 211)).drew:=⟨_,rfl⟩
 obtain⟨gs,hgs⟩:∃ gs,gs=w2.heap.size:=⟨_,rfl⟩
 obtain⟨gx,hgx⟩:∃ gx,gx=w.heap.size+1:=⟨_,rfl⟩
 rw[<-hw3,<-hgs,<-hgx];have hs3:=La w2 (.cells (#[.bool false,.bool false,.bool false,.bool false,.bool false,.bool false,.bool false]) 211);obtain⟨k3,k4⟩:=Za (w:=w3) (g:=gs) (by rw[hw3,hgs];exact hs3);obtain⟨k1,k2⟩:=Za (w:=w3) (g:=gx) (by rw[hw3,hgx];exact Zc Hx2.out _);have Hb3:=hid (show Below w.heap.size w w3 by rw[hw3];exact (Hb2.out.alloc (by have:=Hs2.out;omega) _).drew);clear hs3 hw3 hgs hgx k2 k4 hbox2 c12 hl1 hl2 hl3 hl4;go_wp2_with fail;go_ret;exact⟨by rw[HE.out];rfl,Hb3.out⟩
end
section
open Go.RowKit
theorem Zfh (vm:Value) (wb cb mb:Nat) (pt:GPt) (x:GIns) (A4 A5:Option Addr) (d4 d5:Nat) (w:World) (n1: -9223372036854775808<=x.n) (n2:x.n<=9223372036854775807) (m4:x.args.length<=9223372036854775807) (m5:x.lb9.length<=9223372036854775807)
  (hbox:w.cell? ⟨cb,0,none⟩=some (.pointer (some ⟨wb,0,none⟩))) (hlt:cb<w.heap.size) (hwl:wb<w.heap.size) (c1:w.cell? ⟨wb,1,none⟩=some (.map (some mb))) (hmb:w.heap[mb]?=some shapeObj):
  Calls Tryz.prog 165 #[.agg #[.int .i64 pt.1,.int .i64 pt.2.1,.int .i64 pt.2.2],.agg #[.int .u8 x.op,.string ⟨x.dst.toArray⟩,.string ⟨x.a.toArray⟩,.string ⟨x.b.toArray⟩,.int .i64 x.n,.string ⟨x.fn.toArray⟩,.slice A4 x.args.length d4,.slice A5 x.lb9.length d5],.pointer (some ⟨cb,0,none⟩)] w fun e w'=>
   e=.returned (.bool (Zm x))/\Below w.heap.size w w':=by
 cases hs:Y0 x.op with
 |none=>exact Zel vm wb cb mb pt x A4 A5 d4 d5 w hs n1 n2 m4 m5 hbox hlt hwl c1 hmb
 |some sh=>exact Ydv vm wb cb mb pt x A4 A5 d4 d5 w sh hs n1 n2 m4 m5 hbox hlt hwl c1 hmb
theorem Zno (p:GProg) (vp vm:Value) (B wb cb:Nat) (pt:GPt) (x:GIns) (va vl:Value) (w:World) (hm:(pt,x)∈pts p) (hc:ClAt w B wb cb p vp vm) (hi:InsAt w B x va vl) (mb:Nat) (hvm:vm=.map (some mb)) (hmb:w.heap[mb]?=some shapeObj):
  Calls Tryz.prog 165 #[ptA pt,Uh x va vl,.pointer (some ⟨cb,0,none⟩)] w fun e w'=>e=.returned (.bool (Zm x))/\Below w.heap.size w w':=by
 obtain⟨A4,d4,rfl,m4,_,_,_⟩:=hi.args.open_;obtain⟨A5,d5,rfl,m5,_,_,_⟩:=hi.lb9.open_;subst hvm;have hlt:=hc.lt;have hwl:wb<w.heap.size:=by have:=hc.walk.lt;have:=hc.hB;omega
 exact Zfh (.map (some mb)) wb cb mb pt x A4 A5 d4 d5 w hi.n1 hi.n2 (by have:=hi.argsLe;omega) (by have:=hi.labelsLe;omega) hc.box hlt hwl hc.walk.c1 hmb
theorem Zbh:∀ args w,(callFunc 165 args).run Tryz.prog w=.ok (.enter 165 args) w:=enters_of Tryz.func165 (by kernel_rfl) rfl
theorem Zjo (p:GProg) (vp vm:Value) (B wb:Nat) (w:World) (hB:B<=w.heap.size) (h:WalkAt w B wb p vp vm) (mb:Nat) (hvm:vm=.map (some mb)) (hmb:w.heap[mb]?=some shapeObj):
  Calls Tryz.prog 115 #[.pointer (some ⟨wb,0,none⟩)] w fun e w'=>e=.returned (ptV (K2 p))/\w.grownBy w' none:=by
 obtain⟨w0,hw0⟩:∃ w0:World,w0=(w.alloc (.cells #[.pointer (some ⟨wb,0,none⟩)] 175)).alloc (.cells z3 41):=⟨_,rfl⟩
 have hb0:Below w.heap.size w w0:=by rw[hw0];exact ((Below.refl w.heap.size w).alloc (Lf _) _).alloc (by simp) _
 have hsz0:w0.heap.size=w.heap.size+2:=by rw[hw0];simp
 have hc0:w0.heap[w.heap.size]?=some (.cells #[.pointer (some ⟨wb,0,none⟩)] 175 (0,0)):=by rw[hw0];exact Zc (La w _) _
 have hz0:w0.heap[w.heap.size+1]?=some (.cells z3 41 (0,0)):=by
  have:=La (w.alloc (.cells #[.pointer (some ⟨wb,0,none⟩)] 175)) (.cells z3 41);rw[hw0];simpa using this
 have hcl0:ClAt w0 B wb w.heap.size p vp vm:=⟨h.below hb0 hB,(Za hc0).1 0,by omega,by omega⟩
 have hc:=Ku p vp vm B wb 165 #[.pointer (some ⟨w.heap.size,0,none⟩)] w0 none (fun _ W=>Below w0.heap.size w0 W) (fun _ pt x=>Zm x) (by omega) (h.below hb0 hB)
  (fun r e=>by cases e) (fun _ _ _ r e=>by cases e) Zbh (fun k W W' h1 h2=>h1.trans h2) (Below.refl _ _)
  (fun k pt x va vl W hm hj hg hi _=>(Zno p vp vm B wb w.heap.size pt x va vl W hm (hcl0.below hj) hi mb hvm ((hj.block mb (by have:=Ze hmb;omega)).trans ((hb0.block mb (Ze hmb)).trans hmb))).mono fun e W' ⟨he,hb⟩=>⟨he,fun _=>hj.trans (hb.mono hj.size),Zj hb⟩)
 rw[show Zbn p (fun _ pt x=>Zm x)=K2 p from rfl] at hc;have hlt:wb<w.heap.size:=by have:=h.lt;omega
 have hgw:∀ w1,w0.grownBy w1 none->w1.heap[w.heap.size+1]?=some (.cells z3 41 (0,0))/\w.grownBy w1 none:=fun w1 hg1=>
  ⟨(hg1.block _ (by omega) (by simp)).trans hz0,Zb (Zj hb0) hg1⟩
 rw[hw0] at hc;have Hgw:=hid hgw;rw[hw0] at Hgw;clear h hgw hz0 hc0 hb0 hsz0 hw0 hcl0 hmb;obtain⟨r,hr⟩:∃ r,r=K2 p:=⟨_,rfl⟩
 rw[<-hr] at hc ⊢;clear hr
 cases r with
 |none=>
  change Calls _ _ _ _ (fun e w'=>e=.returned (.tuple #[.agg #[.int .i64 0,.int .i64 0,.int .i64 0],.bool false])/\_) at hc;go_enter Tryz.func115,Tryz.ntmps115;go_wp2_with (go_at_call 163;refine hc.mono ?_;rintro e w1 ⟨rfl,hg1⟩;obtain⟨hb1,hb2⟩:=Za (Hgw.out w1 hg1).1);refine bodyPost_ret (v:=ptV none) (by simp[results,Tryz.results115,go_sem,ptV,ptC,hb1]) rfl ⟨rfl,?_⟩
  repeat (first|exact (Hgw.out w1 hg1).2|refine Zi ?_ (Nat.le_succ _) _)
 |some q=>
  obtain⟨a,b,c⟩:=q;change Calls _ _ _ _ (fun e w'=>e=.returned (.tuple #[.agg #[.int .i64 a,.int .i64 b,.int .i64 c],.bool true])/\_) at hc;go_enter Tryz.func115,Tryz.ntmps115;go_wp2_with (go_at_call 163;refine hc.mono ?_;rintro e w1 ⟨rfl,hg1⟩;obtain⟨hb1,hb2⟩:=Za (Hgw.out w1 hg1).1);refine bodyPost_ret (v:=ptV (some (a,b,c))) (by simp[results,Tryz.results115,go_sem,ptV,ptC,hb1]) rfl ⟨rfl,?_⟩
  repeat (first|exact (Hgw.out w1 hg1).2|refine Zi ?_ (Nat.le_succ _) _)
end

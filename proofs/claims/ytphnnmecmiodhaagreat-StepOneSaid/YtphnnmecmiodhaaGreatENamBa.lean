/- The contract of names.walk.badInstr. Conditions: the program and the shapes lie in memory. -/
import Derived.Test.YtphnnmecmiodhaaGreatENd
import Derived.Deep.DeepCutAuto
set_option maxHeartbeats 6000000
set_option maxRecDepth 100000
set_option linter.unusedVariables false
set_option linter.unusedSimpArgs false
namespace Go.Proofs.YtphnnmecmiodhaaGreat
open Lib(hid)
open Go.RowKit
theorem Zjf (vm:Value) (wb cb mb:Nat) (pt:GPt) (x:GIns) (A4 A5:Option Addr) (d4 d5:Nat) (w:World) (hop:x.op=1) (n1: -9223372036854775808≤x.n) (n2:x.n≤9223372036854775807) (m4:x.args.length≤9223372036854775807) (m5:x.labels.length≤9223372036854775807)
  (hbox:w.cell? ⟨cb,0,none⟩=some (.pointer (some ⟨wb,0,none⟩))) (hlt:cb<w.heap.size) (hwl:wb<w.heap.size) (c1:w.cell? ⟨wb,1,none⟩=some (.map (some mb))) (hmb:w.heap[mb]?=some shapeObj):
  Calls Tryz.prog 209 #[.agg #[.int .i64 pt.1,.int .i64 pt.2.1,.int .i64 pt.2.2],.agg #[.int .u8 x.op,.string ⟨x.dst.toArray⟩,.string ⟨x.a.toArray⟩,.string ⟨x.b.toArray⟩,.int .i64 x.n,.string ⟨x.fn.toArray⟩,.slice A4 x.args.length d4,.slice A5 x.labels.length d5],.pointer (some ⟨cb,0,none⟩)] w fun e w'=>
   e=.returned (.bool (Zm x))∧Below w.heap.size w w':=by
 have hcn:cb≠w.heap.size:=by omega
 have hwn:wb≠w.heap.size:=by omega
 have hmbl:=Ze hmb;obtain⟨op,dst,a,b,n,fn,args,labels⟩:=x;simp only at hop n1 n2 m4 m5 ⊢;subst hop;have HE:=hid (show Zm ⟨1,dst,a,b,n,fn,args,labels⟩=(((((((!a.isEmpty|| !b.isEmpty)|| !fn.isEmpty)|| !args.isEmpty)|| !labels.isEmpty))||(dst.isEmpty))||(decide (n<1)||decide (64<n))) by simp[Zm,Y1,Y6,Y0,Yj,Bool.or_assoc]);obtain⟨w2,hw2⟩:∃ w2:World,w2=(w.alloc (.cells #[.int .i64 pt.1,.int .i64 pt.2.1,.int .i64 pt.2.2] 41)).alloc (.cells #[.int .u8 (1:Int),.string ⟨dst.toArray⟩,.string ⟨a.toArray⟩,.string ⟨b.toArray⟩,.int .i64 n,.string ⟨fn.toArray⟩,.slice A4 args.length d4,.slice A5 labels.length d5] 25):=⟨_,rfl⟩
 have hb2:Below w.heap.size w w2:=by rw[hw2];exact ((Below.refl w.heap.size w).alloc (Nat.le_refl _) _).alloc (by simp) _
 have hx2:w2.heap[w.heap.size+1]?=some (.cells #[.int .u8 (1:Int),.string ⟨dst.toArray⟩,.string ⟨a.toArray⟩,.string ⟨b.toArray⟩,.int .i64 n,.string ⟨fn.toArray⟩,.slice A4 args.length d4,.slice A5 labels.length d5] 25 (0,0)):=by
  have:=World.alloc_heap_new (w.alloc (.cells #[.int .i64 pt.1,.int .i64 pt.2.1,.int .i64 pt.2.2] 41)) (.cells #[.int .u8 (1:Int),.string ⟨dst.toArray⟩,.string ⟨a.toArray⟩,.string ⟨b.toArray⟩,.int .i64 n,.string ⟨fn.toArray⟩,.slice A4 args.length d4,.slice A5 labels.length d5] 25);rw[hw2];simpa using this
 have hs2:w2.heap.size=w.heap.size+2:=by rw[hw2];simp
 have hm2:=(hb2.block mb hmbl).trans hmb;have hlkA:=Zu (w:=w2.drew) hm2 1;have hlkB:=fun o1=>Zu (w:=(w2.alloc o1).drew) (Zc hm2 o1) 1
 rw[show ((1:Nat):Int)=1 from rfl] at hlkA hlkB;simp only[Ym,Y0,shpV,Option.getD_some,Option.getD_none,Option.isSome_some,Option.isSome_none] at hlkA hlkB;have hbox2:=cur hb2 hlt hbox;have c12:=cur hb2 hwl c1;obtain⟨k1,k2⟩:=Za hx2;have hl1:cb<w2.heap.size:=by omega
 have hl2:wb<w2.heap.size:=by omega
 have hl3:w.heap.size+1<w2.heap.size:=by omega
 have hl4:w.heap.size+1≠w2.heap.size:=by omega
 have Hb2:=hid hb2;have Hx2:=hid hx2;have Hs2:=hid hs2;have hcl:=fun w'=>Y9 1 w' (by omega)
 rw[show ((1:Nat):Int)=1 from rfl] at hcl;simp only[Yj,Nat.reduceBEq,Bool.or_false,Bool.or_true,Bool.false_or] at hcl;have e1:(n == 0)=decide (n=0):=rfl;clear e1;go_enter Tryz.func209,Tryz.ntmps209;go_wp2_with fail;rw[←hw2];clear hw2 hx2 hm2 hbox c1 hmb hb2 hs2;go_region;clear hlkA hlkB;go_upto_region 2 with (fail)
 simp only[List.append];obtain⟨w3,hw3⟩:∃ w3:World,w3=(w2.alloc (.cells (#[.bool true,.bool false,.bool false,.bool true,.bool false,.bool false,.bool false]) 273)).drew:=⟨_,rfl⟩
 obtain⟨gs,hgs⟩:∃ gs,gs=w2.heap.size:=⟨_,rfl⟩
 obtain⟨gx,hgx⟩:∃ gx,gx=w.heap.size+1:=⟨_,rfl⟩
 rw[←hw3,←hgs,←hgx];have hs3:=World.alloc_heap_new w2 (.cells (#[.bool true,.bool false,.bool false,.bool true,.bool false,.bool false,.bool false]) 273);obtain⟨k3,k4⟩:=Za (w:=w3) (g:=gs) (by rw[hw3,hgs];exact hs3);obtain⟨k1,k2⟩:=Za (w:=w3) (g:=gx) (by rw[hw3,hgx];exact Zc Hx2.out _);have Hb3:=hid (show Below w.heap.size w w3 by rw[hw3];exact (Hb2.out.alloc (by have:=Hs2.out;omega) _).drew);clear hs3 hw3 hgs hgx k2 k4 hbox2 c12 hl1 hl2 hl3 hl4;go_cut [91] (fun s91 wx=>s91=.bool (((((!a.isEmpty|| !b.isEmpty)|| !fn.isEmpty)|| !args.isEmpty)|| !labels.isEmpty))∧wx=w3)
 case first=>
  cases ha:a.isEmpty with
  |false=>
   have HR:=hid (show (((((!a.isEmpty|| !b.isEmpty)|| !fn.isEmpty)|| !args.isEmpty)|| !labels.isEmpty))=true by rw[ha];rfl);go_wp2_with fail;go_meet
   first|exact⟨by rw[HR.out],rfl⟩|exact⟨rfl,rfl⟩
  |true=>
   cases hb:b.isEmpty with
   |false=>
    have HR:=hid (show (((((!a.isEmpty|| !b.isEmpty)|| !fn.isEmpty)|| !args.isEmpty)|| !labels.isEmpty))=true by rw[ha,hb];rfl);go_wp2_with fail;go_meet
    first|exact⟨by rw[HR.out],rfl⟩|exact⟨rfl,rfl⟩
   |true=>
    cases hfn:fn.isEmpty with
    |false=>
     have HR:=hid (show (((((!a.isEmpty|| !b.isEmpty)|| !fn.isEmpty)|| !args.isEmpty)|| !labels.isEmpty))=true by rw[ha,hb,hfn];rfl);go_wp2_with fail;go_meet
     first|exact⟨by rw[HR.out],rfl⟩|exact⟨rfl,rfl⟩
    |true=>
     cases hargs:args.isEmpty with
     |false=>
      have HR:=hid (show (((((!a.isEmpty|| !b.isEmpty)|| !fn.isEmpty)|| !args.isEmpty)|| !labels.isEmpty))=true by rw[ha,hb,hfn,hargs];rfl);have eargs:args≠[]:=List.isEmpty_eq_false_iff.1 hargs;have eargsB:0<args.length:=List.length_pos_iff.2 eargs;go_wp2_with fail;go_meet
      first|exact⟨by rw[HR.out],rfl⟩|exact⟨rfl,rfl⟩
     |true=>
      cases hlabels:labels.isEmpty with
      |false=>
       have HR:=hid (show (((((!a.isEmpty|| !b.isEmpty)|| !fn.isEmpty)|| !args.isEmpty)|| !labels.isEmpty))=true by rw[ha,hb,hfn,hargs,hlabels];rfl);obtain rfl:=List.isEmpty_iff.1 hargs;have elabels:labels≠[]:=List.isEmpty_eq_false_iff.1 hlabels;have elabelsB:0<labels.length:=List.length_pos_iff.2 elabels;go_wp2_with fail;go_meet
       first|exact⟨by rw[HR.out],rfl⟩|exact⟨rfl,rfl⟩
      |true=>
       have HR:=hid (show (((((!a.isEmpty|| !b.isEmpty)|| !fn.isEmpty)|| !args.isEmpty)|| !labels.isEmpty))=false by rw[ha,hb,hfn,hargs,hlabels];rfl);obtain rfl:=List.isEmpty_iff.1 hargs;obtain rfl:=List.isEmpty_iff.1 hlabels;go_wp2_with fail;go_meet
       first|exact⟨by rw[HR.out],rfl⟩|exact⟨rfl,rfl⟩
 case rest=>
  obtain⟨rfl,rfl⟩:=hcut
  cases hB1:(((((!a.isEmpty|| !b.isEmpty)|| !fn.isEmpty)|| !args.isEmpty)|| !labels.isEmpty)) with
  |true=>
   have HR:=hid (show Zm ⟨1,dst,a,b,n,fn,args,labels⟩=true by rw[HE.out,hB1];rfl);clear hB1;go_wp2_with fail;go_ret;exact⟨by rw[HR.out];rfl,Hb3.out⟩
  |false=>
   have HB1:=hid hB1;clear hB1;go_upto_region 4 with (fail)
   go_cut [136] (fun s136 wx=>s136=.bool (dst.isEmpty)∧wx=wc)
   case first=>
    cases hdst:dst.isEmpty with
    |true=>
     have HR:=hid (show (dst.isEmpty)=true by simp[hdst]);go_wp2_with (go_at_call 205;refine (hcl _).mono ?_;rintro e w' ⟨rfl,rfl⟩);go_meet
     first|exact⟨by rw[HR.out],rfl⟩|exact⟨rfl,rfl⟩
    |false=>
     have HR:=hid (show (dst.isEmpty)=false by simp[hdst]);go_wp2_with (go_at_call 205;refine (hcl _).mono ?_;rintro e w' ⟨rfl,rfl⟩);go_meet
     first|exact⟨by rw[HR.out],rfl⟩|exact⟨rfl,rfl⟩
   case rest=>
    obtain⟨rfl,rfl⟩:=hcut
    cases hB2:(dst.isEmpty) with
    |true=>
     have HR:=hid (show Zm ⟨1,dst,a,b,n,fn,args,labels⟩=true by rw[HE.out,HB1.out,hB2];rfl);clear hB2;go_wp2_with fail;go_ret;exact⟨by rw[HR.out];rfl,Hb3.out⟩
    |false=>
     have HR:=hid (show Zm ⟨1,dst,a,b,n,fn,args,labels⟩=(decide (n<1)||decide (64<n)) by rw[HE.out,HB1.out,hB2];rfl);clear hB2
     by_cases q1:n<1
     ·have q1':=q1;go_wp2_with fail;go_ret;exact⟨by rw[HR.out];simp[q1],Hb3.out⟩
     ·by_cases q2:64<n
      ·go_wp2_with fail;go_ret;exact⟨by rw[HR.out];simp[q1,q2],Hb3.out⟩
      ·go_wp2_with fail;go_ret;exact⟨by rw[HR.out];simp[q1,q2],Hb3.out⟩
theorem Zjg (vm:Value) (wb cb mb:Nat) (pt:GPt) (x:GIns) (A4 A5:Option Addr) (d4 d5:Nat) (w:World) (hop:x.op=2) (n1: -9223372036854775808≤x.n) (n2:x.n≤9223372036854775807) (m4:x.args.length≤9223372036854775807) (m5:x.labels.length≤9223372036854775807)
  (hbox:w.cell? ⟨cb,0,none⟩=some (.pointer (some ⟨wb,0,none⟩))) (hlt:cb<w.heap.size) (hwl:wb<w.heap.size) (c1:w.cell? ⟨wb,1,none⟩=some (.map (some mb))) (hmb:w.heap[mb]?=some shapeObj):
  Calls Tryz.prog 209 #[.agg #[.int .i64 pt.1,.int .i64 pt.2.1,.int .i64 pt.2.2],.agg #[.int .u8 x.op,.string ⟨x.dst.toArray⟩,.string ⟨x.a.toArray⟩,.string ⟨x.b.toArray⟩,.int .i64 x.n,.string ⟨x.fn.toArray⟩,.slice A4 x.args.length d4,.slice A5 x.labels.length d5],.pointer (some ⟨cb,0,none⟩)] w fun e w'=>
   e=.returned (.bool (Zm x))∧Below w.heap.size w w':=by
 have hcn:cb≠w.heap.size:=by omega
 have hwn:wb≠w.heap.size:=by omega
 have hmbl:=Ze hmb;obtain⟨op,dst,a,b,n,fn,args,labels⟩:=x;simp only at hop n1 n2 m4 m5 ⊢;subst hop;have HE:=hid (show Zm ⟨2,dst,a,b,n,fn,args,labels⟩=(((((((!a.isEmpty|| !b.isEmpty)|| !fn.isEmpty)|| !args.isEmpty)|| !labels.isEmpty))||(dst.isEmpty))||(decide (n<1)||decide (64<n))) by simp[Zm,Y1,Y6,Y0,Yj,Bool.or_assoc]);obtain⟨w2,hw2⟩:∃ w2:World,w2=(w.alloc (.cells #[.int .i64 pt.1,.int .i64 pt.2.1,.int .i64 pt.2.2] 41)).alloc (.cells #[.int .u8 (2:Int),.string ⟨dst.toArray⟩,.string ⟨a.toArray⟩,.string ⟨b.toArray⟩,.int .i64 n,.string ⟨fn.toArray⟩,.slice A4 args.length d4,.slice A5 labels.length d5] 25):=⟨_,rfl⟩
 have hb2:Below w.heap.size w w2:=by rw[hw2];exact ((Below.refl w.heap.size w).alloc (Nat.le_refl _) _).alloc (by simp) _
 have hx2:w2.heap[w.heap.size+1]?=some (.cells #[.int .u8 (2:Int),.string ⟨dst.toArray⟩,.string ⟨a.toArray⟩,.string ⟨b.toArray⟩,.int .i64 n,.string ⟨fn.toArray⟩,.slice A4 args.length d4,.slice A5 labels.length d5] 25 (0,0)):=by
  have:=World.alloc_heap_new (w.alloc (.cells #[.int .i64 pt.1,.int .i64 pt.2.1,.int .i64 pt.2.2] 41)) (.cells #[.int .u8 (2:Int),.string ⟨dst.toArray⟩,.string ⟨a.toArray⟩,.string ⟨b.toArray⟩,.int .i64 n,.string ⟨fn.toArray⟩,.slice A4 args.length d4,.slice A5 labels.length d5] 25);rw[hw2];simpa using this
 have hs2:w2.heap.size=w.heap.size+2:=by rw[hw2];simp
 have hm2:=(hb2.block mb hmbl).trans hmb;have hlkA:=Zu (w:=w2.drew) hm2 2;have hlkB:=fun o1=>Zu (w:=(w2.alloc o1).drew) (Zc hm2 o1) 2
 rw[show ((2:Nat):Int)=2 from rfl] at hlkA hlkB;simp only[Ym,Y0,shpV,Option.getD_some,Option.getD_none,Option.isSome_some,Option.isSome_none] at hlkA hlkB;have hbox2:=cur hb2 hlt hbox;have c12:=cur hb2 hwl c1;obtain⟨k1,k2⟩:=Za hx2;have hl1:cb<w2.heap.size:=by omega
 have hl2:wb<w2.heap.size:=by omega
 have hl3:w.heap.size+1<w2.heap.size:=by omega
 have hl4:w.heap.size+1≠w2.heap.size:=by omega
 have Hb2:=hid hb2;have Hx2:=hid hx2;have Hs2:=hid hs2;have hcl:=fun w'=>Y9 2 w' (by omega)
 rw[show ((2:Nat):Int)=2 from rfl] at hcl;simp only[Yj,Nat.reduceBEq,Bool.or_false,Bool.or_true,Bool.false_or] at hcl;have e1:(n == 0)=decide (n=0):=rfl;clear e1;go_enter Tryz.func209,Tryz.ntmps209;go_wp2_with fail;rw[←hw2];clear hw2 hx2 hm2 hbox c1 hmb hb2 hs2;go_region;clear hlkA hlkB;go_upto_region 2 with (fail)
 simp only[List.append];obtain⟨w3,hw3⟩:∃ w3:World,w3=(w2.alloc (.cells (#[.bool true,.bool false,.bool false,.bool true,.bool false,.bool false,.bool false]) 273)).drew:=⟨_,rfl⟩
 obtain⟨gs,hgs⟩:∃ gs,gs=w2.heap.size:=⟨_,rfl⟩
 obtain⟨gx,hgx⟩:∃ gx,gx=w.heap.size+1:=⟨_,rfl⟩
 rw[←hw3,←hgs,←hgx];have hs3:=World.alloc_heap_new w2 (.cells (#[.bool true,.bool false,.bool false,.bool true,.bool false,.bool false,.bool false]) 273);obtain⟨k3,k4⟩:=Za (w:=w3) (g:=gs) (by rw[hw3,hgs];exact hs3);obtain⟨k1,k2⟩:=Za (w:=w3) (g:=gx) (by rw[hw3,hgx];exact Zc Hx2.out _);have Hb3:=hid (show Below w.heap.size w w3 by rw[hw3];exact (Hb2.out.alloc (by have:=Hs2.out;omega) _).drew);clear hs3 hw3 hgs hgx k2 k4 hbox2 c12 hl1 hl2 hl3 hl4;go_cut [91] (fun s91 wx=>s91=.bool (((((!a.isEmpty|| !b.isEmpty)|| !fn.isEmpty)|| !args.isEmpty)|| !labels.isEmpty))∧wx=w3)
 case first=>
  cases ha:a.isEmpty with
  |false=>
   have HR:=hid (show (((((!a.isEmpty|| !b.isEmpty)|| !fn.isEmpty)|| !args.isEmpty)|| !labels.isEmpty))=true by rw[ha];rfl);go_wp2_with fail;go_meet
   first|exact⟨by rw[HR.out],rfl⟩|exact⟨rfl,rfl⟩
  |true=>
   cases hb:b.isEmpty with
   |false=>
    have HR:=hid (show (((((!a.isEmpty|| !b.isEmpty)|| !fn.isEmpty)|| !args.isEmpty)|| !labels.isEmpty))=true by rw[ha,hb];rfl);go_wp2_with fail;go_meet
    first|exact⟨by rw[HR.out],rfl⟩|exact⟨rfl,rfl⟩
   |true=>
    cases hfn:fn.isEmpty with
    |false=>
     have HR:=hid (show (((((!a.isEmpty|| !b.isEmpty)|| !fn.isEmpty)|| !args.isEmpty)|| !labels.isEmpty))=true by rw[ha,hb,hfn];rfl);go_wp2_with fail;go_meet
     first|exact⟨by rw[HR.out],rfl⟩|exact⟨rfl,rfl⟩
    |true=>
     cases hargs:args.isEmpty with
     |false=>
      have HR:=hid (show (((((!a.isEmpty|| !b.isEmpty)|| !fn.isEmpty)|| !args.isEmpty)|| !labels.isEmpty))=true by rw[ha,hb,hfn,hargs];rfl);have eargs:args≠[]:=List.isEmpty_eq_false_iff.1 hargs;have eargsB:0<args.length:=List.length_pos_iff.2 eargs;go_wp2_with fail;go_meet
      first|exact⟨by rw[HR.out],rfl⟩|exact⟨rfl,rfl⟩
     |true=>
      cases hlabels:labels.isEmpty with
      |false=>
       have HR:=hid (show (((((!a.isEmpty|| !b.isEmpty)|| !fn.isEmpty)|| !args.isEmpty)|| !labels.isEmpty))=true by rw[ha,hb,hfn,hargs,hlabels];rfl);obtain rfl:=List.isEmpty_iff.1 hargs;have elabels:labels≠[]:=List.isEmpty_eq_false_iff.1 hlabels;have elabelsB:0<labels.length:=List.length_pos_iff.2 elabels;go_wp2_with fail;go_meet
       first|exact⟨by rw[HR.out],rfl⟩|exact⟨rfl,rfl⟩
      |true=>
       have HR:=hid (show (((((!a.isEmpty|| !b.isEmpty)|| !fn.isEmpty)|| !args.isEmpty)|| !labels.isEmpty))=false by rw[ha,hb,hfn,hargs,hlabels];rfl);obtain rfl:=List.isEmpty_iff.1 hargs;obtain rfl:=List.isEmpty_iff.1 hlabels;go_wp2_with fail;go_meet
       first|exact⟨by rw[HR.out],rfl⟩|exact⟨rfl,rfl⟩
 case rest=>
  obtain⟨rfl,rfl⟩:=hcut
  cases hB1:(((((!a.isEmpty|| !b.isEmpty)|| !fn.isEmpty)|| !args.isEmpty)|| !labels.isEmpty)) with
  |true=>
   have HR:=hid (show Zm ⟨2,dst,a,b,n,fn,args,labels⟩=true by rw[HE.out,hB1];rfl);clear hB1;go_wp2_with fail;go_ret;exact⟨by rw[HR.out];rfl,Hb3.out⟩
  |false=>
   have HB1:=hid hB1;clear hB1;go_upto_region 4 with (fail)
   go_cut [136] (fun s136 wx=>s136=.bool (dst.isEmpty)∧wx=wc)
   case first=>
    cases hdst:dst.isEmpty with
    |true=>
     have HR:=hid (show (dst.isEmpty)=true by simp[hdst]);go_wp2_with (go_at_call 205;refine (hcl _).mono ?_;rintro e w' ⟨rfl,rfl⟩);go_meet
     first|exact⟨by rw[HR.out],rfl⟩|exact⟨rfl,rfl⟩
    |false=>
     have HR:=hid (show (dst.isEmpty)=false by simp[hdst]);go_wp2_with (go_at_call 205;refine (hcl _).mono ?_;rintro e w' ⟨rfl,rfl⟩);go_meet
     first|exact⟨by rw[HR.out],rfl⟩|exact⟨rfl,rfl⟩
   case rest=>
    obtain⟨rfl,rfl⟩:=hcut
    cases hB2:(dst.isEmpty) with
    |true=>
     have HR:=hid (show Zm ⟨2,dst,a,b,n,fn,args,labels⟩=true by rw[HE.out,HB1.out,hB2];rfl);clear hB2;go_wp2_with fail;go_ret;exact⟨by rw[HR.out];rfl,Hb3.out⟩
    |false=>
     have HR:=hid (show Zm ⟨2,dst,a,b,n,fn,args,labels⟩=(decide (n<1)||decide (64<n)) by rw[HE.out,HB1.out,hB2];rfl);clear hB2
     by_cases q1:n<1
     ·have q1':=q1;go_wp2_with fail;go_ret;exact⟨by rw[HR.out];simp[q1],Hb3.out⟩
     ·by_cases q2:64<n
      ·go_wp2_with fail;go_ret;exact⟨by rw[HR.out];simp[q1,q2],Hb3.out⟩
      ·go_wp2_with fail;go_ret;exact⟨by rw[HR.out];simp[q1,q2],Hb3.out⟩
theorem Zjh (vm:Value) (wb cb mb:Nat) (pt:GPt) (x:GIns) (A4 A5:Option Addr) (d4 d5:Nat) (w:World) (hop:x.op=3) (n1: -9223372036854775808≤x.n) (n2:x.n≤9223372036854775807) (m4:x.args.length≤9223372036854775807) (m5:x.labels.length≤9223372036854775807)
  (hbox:w.cell? ⟨cb,0,none⟩=some (.pointer (some ⟨wb,0,none⟩))) (hlt:cb<w.heap.size) (hwl:wb<w.heap.size) (c1:w.cell? ⟨wb,1,none⟩=some (.map (some mb))) (hmb:w.heap[mb]?=some shapeObj):
  Calls Tryz.prog 209 #[.agg #[.int .i64 pt.1,.int .i64 pt.2.1,.int .i64 pt.2.2],.agg #[.int .u8 x.op,.string ⟨x.dst.toArray⟩,.string ⟨x.a.toArray⟩,.string ⟨x.b.toArray⟩,.int .i64 x.n,.string ⟨x.fn.toArray⟩,.slice A4 x.args.length d4,.slice A5 x.labels.length d5],.pointer (some ⟨cb,0,none⟩)] w fun e w'=>
   e=.returned (.bool (Zm x))∧Below w.heap.size w w':=by
 have hcn:cb≠w.heap.size:=by omega
 have hwn:wb≠w.heap.size:=by omega
 have hmbl:=Ze hmb;obtain⟨op,dst,a,b,n,fn,args,labels⟩:=x;simp only at hop n1 n2 m4 m5 ⊢;subst hop;have HE:=hid (show Zm ⟨3,dst,a,b,n,fn,args,labels⟩=((((((((!a.isEmpty|| !b.isEmpty)|| !(n == 0))|| !fn.isEmpty)|| !args.isEmpty)|| !labels.isEmpty))||(dst.isEmpty))||(false)) by simp[Zm,Y1,Y6,Y0,Yj,Bool.or_assoc]);obtain⟨w2,hw2⟩:∃ w2:World,w2=(w.alloc (.cells #[.int .i64 pt.1,.int .i64 pt.2.1,.int .i64 pt.2.2] 41)).alloc (.cells #[.int .u8 (3:Int),.string ⟨dst.toArray⟩,.string ⟨a.toArray⟩,.string ⟨b.toArray⟩,.int .i64 n,.string ⟨fn.toArray⟩,.slice A4 args.length d4,.slice A5 labels.length d5] 25):=⟨_,rfl⟩
 have hb2:Below w.heap.size w w2:=by rw[hw2];exact ((Below.refl w.heap.size w).alloc (Nat.le_refl _) _).alloc (by simp) _
 have hx2:w2.heap[w.heap.size+1]?=some (.cells #[.int .u8 (3:Int),.string ⟨dst.toArray⟩,.string ⟨a.toArray⟩,.string ⟨b.toArray⟩,.int .i64 n,.string ⟨fn.toArray⟩,.slice A4 args.length d4,.slice A5 labels.length d5] 25 (0,0)):=by
  have:=World.alloc_heap_new (w.alloc (.cells #[.int .i64 pt.1,.int .i64 pt.2.1,.int .i64 pt.2.2] 41)) (.cells #[.int .u8 (3:Int),.string ⟨dst.toArray⟩,.string ⟨a.toArray⟩,.string ⟨b.toArray⟩,.int .i64 n,.string ⟨fn.toArray⟩,.slice A4 args.length d4,.slice A5 labels.length d5] 25);rw[hw2];simpa using this
 have hs2:w2.heap.size=w.heap.size+2:=by rw[hw2];simp
 have hm2:=(hb2.block mb hmbl).trans hmb;have hlkA:=Zu (w:=w2.drew) hm2 3;have hlkB:=fun o1=>Zu (w:=(w2.alloc o1).drew) (Zc hm2 o1) 3
 rw[show ((3:Nat):Int)=3 from rfl] at hlkA hlkB;simp only[Ym,Y0,shpV,Option.getD_some,Option.getD_none,Option.isSome_some,Option.isSome_none] at hlkA hlkB;have hbox2:=cur hb2 hlt hbox;have c12:=cur hb2 hwl c1;obtain⟨k1,k2⟩:=Za hx2;have hl1:cb<w2.heap.size:=by omega
 have hl2:wb<w2.heap.size:=by omega
 have hl3:w.heap.size+1<w2.heap.size:=by omega
 have hl4:w.heap.size+1≠w2.heap.size:=by omega
 have Hb2:=hid hb2;have Hx2:=hid hx2;have Hs2:=hid hs2;have hcl:=fun w'=>Y9 3 w' (by omega)
 rw[show ((3:Nat):Int)=3 from rfl] at hcl;simp only[Yj,Nat.reduceBEq,Bool.or_false,Bool.or_true,Bool.false_or] at hcl;have e1:(n == 0)=decide (n=0):=rfl;clear e1;go_enter Tryz.func209,Tryz.ntmps209;go_wp2_with fail;rw[←hw2];clear hw2 hx2 hm2 hbox c1 hmb hb2 hs2;go_region;clear hlkA hlkB;go_upto_region 2 with (fail)
 simp only[List.append];obtain⟨w3,hw3⟩:∃ w3:World,w3=(w2.alloc (.cells (#[.bool true,.bool false,.bool false,.bool false,.bool false,.bool false,.bool false]) 273)).drew:=⟨_,rfl⟩
 obtain⟨gs,hgs⟩:∃ gs,gs=w2.heap.size:=⟨_,rfl⟩
 obtain⟨gx,hgx⟩:∃ gx,gx=w.heap.size+1:=⟨_,rfl⟩
 rw[←hw3,←hgs,←hgx];have hs3:=World.alloc_heap_new w2 (.cells (#[.bool true,.bool false,.bool false,.bool false,.bool false,.bool false,.bool false]) 273);obtain⟨k3,k4⟩:=Za (w:=w3) (g:=gs) (by rw[hw3,hgs];exact hs3);obtain⟨k1,k2⟩:=Za (w:=w3) (g:=gx) (by rw[hw3,hgx];exact Zc Hx2.out _);have Hb3:=hid (show Below w.heap.size w w3 by rw[hw3];exact (Hb2.out.alloc (by have:=Hs2.out;omega) _).drew);clear hs3 hw3 hgs hgx k2 k4 hbox2 c12 hl1 hl2 hl3 hl4;go_cut [91] (fun s91 wx=>s91=.bool ((((((!a.isEmpty|| !b.isEmpty)|| !(n == 0))|| !fn.isEmpty)|| !args.isEmpty)|| !labels.isEmpty))∧wx=w3)
 case first=>
  cases ha:a.isEmpty with
  |false=>
   have HR:=hid (show ((((((!a.isEmpty|| !b.isEmpty)|| !(n == 0))|| !fn.isEmpty)|| !args.isEmpty)|| !labels.isEmpty))=true by rw[ha];rfl);go_wp2_with fail;go_meet
   first|exact⟨by rw[HR.out],rfl⟩|exact⟨rfl,rfl⟩
  |true=>
   cases hb:b.isEmpty with
   |false=>
    have HR:=hid (show ((((((!a.isEmpty|| !b.isEmpty)|| !(n == 0))|| !fn.isEmpty)|| !args.isEmpty)|| !labels.isEmpty))=true by rw[ha,hb];rfl);go_wp2_with fail;go_meet
    first|exact⟨by rw[HR.out],rfl⟩|exact⟨rfl,rfl⟩
   |true=>
    cases hn:(n == 0) with
    |false=>
     have HR:=hid (show ((((((!a.isEmpty|| !b.isEmpty)|| !(n == 0))|| !fn.isEmpty)|| !args.isEmpty)|| !labels.isEmpty))=true by rw[ha,hb,hn];rfl);have en:(n != 0)=true:=by rw[bne_iff_ne];exact ne_of_beq_false hn
     go_wp2_with fail;go_meet
     first|exact⟨by rw[HR.out],rfl⟩|exact⟨rfl,rfl⟩
    |true=>
     cases hfn:fn.isEmpty with
     |false=>
      have HR:=hid (show ((((((!a.isEmpty|| !b.isEmpty)|| !(n == 0))|| !fn.isEmpty)|| !args.isEmpty)|| !labels.isEmpty))=true by rw[ha,hb,hn,hfn];rfl);have en:(n != 0)=false:=by rw[bne_eq_false_iff_eq];exact eq_of_beq hn
      go_wp2_with fail;go_meet
      first|exact⟨by rw[HR.out],rfl⟩|exact⟨rfl,rfl⟩
     |true=>
      cases hargs:args.isEmpty with
      |false=>
       have HR:=hid (show ((((((!a.isEmpty|| !b.isEmpty)|| !(n == 0))|| !fn.isEmpty)|| !args.isEmpty)|| !labels.isEmpty))=true by rw[ha,hb,hn,hfn,hargs];rfl);have en:(n != 0)=false:=by rw[bne_eq_false_iff_eq];exact eq_of_beq hn
       have eargs:args≠[]:=List.isEmpty_eq_false_iff.1 hargs;have eargsB:0<args.length:=List.length_pos_iff.2 eargs;go_wp2_with fail;go_meet
       first|exact⟨by rw[HR.out],rfl⟩|exact⟨rfl,rfl⟩
      |true=>
       cases hlabels:labels.isEmpty with
       |false=>
        have HR:=hid (show ((((((!a.isEmpty|| !b.isEmpty)|| !(n == 0))|| !fn.isEmpty)|| !args.isEmpty)|| !labels.isEmpty))=true by rw[ha,hb,hn,hfn,hargs,hlabels];rfl);have en:(n != 0)=false:=by rw[bne_eq_false_iff_eq];exact eq_of_beq hn
        obtain rfl:=List.isEmpty_iff.1 hargs;have elabels:labels≠[]:=List.isEmpty_eq_false_iff.1 hlabels;have elabelsB:0<labels.length:=List.length_pos_iff.2 elabels;go_wp2_with fail;go_meet
        first|exact⟨by rw[HR.out],rfl⟩|exact⟨rfl,rfl⟩
       |true=>
        have HR:=hid (show ((((((!a.isEmpty|| !b.isEmpty)|| !(n == 0))|| !fn.isEmpty)|| !args.isEmpty)|| !labels.isEmpty))=false by rw[ha,hb,hn,hfn,hargs,hlabels];rfl);have en:(n != 0)=false:=by rw[bne_eq_false_iff_eq];exact eq_of_beq hn
        obtain rfl:=List.isEmpty_iff.1 hargs;obtain rfl:=List.isEmpty_iff.1 hlabels;go_wp2_with fail;go_meet
        first|exact⟨by rw[HR.out],rfl⟩|exact⟨rfl,rfl⟩
 case rest=>
  obtain⟨rfl,rfl⟩:=hcut
  cases hB1:((((((!a.isEmpty|| !b.isEmpty)|| !(n == 0))|| !fn.isEmpty)|| !args.isEmpty)|| !labels.isEmpty)) with
  |true=>
   have HR:=hid (show Zm ⟨3,dst,a,b,n,fn,args,labels⟩=true by rw[HE.out,hB1];rfl);clear hB1;go_wp2_with fail;go_ret;exact⟨by rw[HR.out];rfl,Hb3.out⟩
  |false=>
   have HB1:=hid hB1;clear hB1;go_upto_region 4 with (fail)
   go_cut [136] (fun s136 wx=>s136=.bool (dst.isEmpty)∧wx=wc)
   case first=>
    cases hdst:dst.isEmpty with
    |true=>
     have HR:=hid (show (dst.isEmpty)=true by simp[hdst]);go_wp2_with (go_at_call 205;refine (hcl _).mono ?_;rintro e w' ⟨rfl,rfl⟩);go_meet
     first|exact⟨by rw[HR.out],rfl⟩|exact⟨rfl,rfl⟩
    |false=>
     have HR:=hid (show (dst.isEmpty)=false by simp[hdst]);go_wp2_with (go_at_call 205;refine (hcl _).mono ?_;rintro e w' ⟨rfl,rfl⟩);go_meet
     first|exact⟨by rw[HR.out],rfl⟩|exact⟨rfl,rfl⟩
   case rest=>
    obtain⟨rfl,rfl⟩:=hcut
    cases hB2:(dst.isEmpty) with
    |true=>
     have HR:=hid (show Zm ⟨3,dst,a,b,n,fn,args,labels⟩=true by rw[HE.out,HB1.out,hB2];rfl);clear hB2;go_wp2_with fail;go_ret;exact⟨by rw[HR.out];rfl,Hb3.out⟩
    |false=>
     have HR:=hid (show Zm ⟨3,dst,a,b,n,fn,args,labels⟩=(false) by rw[HE.out,HB1.out,hB2];rfl);clear hB2;go_wp2_with fail;go_ret;exact⟨by rw[HR.out];simp,Hb3.out⟩
theorem Zji (vm:Value) (wb cb mb:Nat) (pt:GPt) (x:GIns) (A4 A5:Option Addr) (d4 d5:Nat) (w:World) (hop:x.op=4) (n1: -9223372036854775808≤x.n) (n2:x.n≤9223372036854775807) (m4:x.args.length≤9223372036854775807) (m5:x.labels.length≤9223372036854775807)
  (hbox:w.cell? ⟨cb,0,none⟩=some (.pointer (some ⟨wb,0,none⟩))) (hlt:cb<w.heap.size) (hwl:wb<w.heap.size) (c1:w.cell? ⟨wb,1,none⟩=some (.map (some mb))) (hmb:w.heap[mb]?=some shapeObj):
  Calls Tryz.prog 209 #[.agg #[.int .i64 pt.1,.int .i64 pt.2.1,.int .i64 pt.2.2],.agg #[.int .u8 x.op,.string ⟨x.dst.toArray⟩,.string ⟨x.a.toArray⟩,.string ⟨x.b.toArray⟩,.int .i64 x.n,.string ⟨x.fn.toArray⟩,.slice A4 x.args.length d4,.slice A5 x.labels.length d5],.pointer (some ⟨cb,0,none⟩)] w fun e w'=>
   e=.returned (.bool (Zm x))∧Below w.heap.size w w':=by
 have hcn:cb≠w.heap.size:=by omega
 have hwn:wb≠w.heap.size:=by omega
 have hmbl:=Ze hmb;obtain⟨op,dst,a,b,n,fn,args,labels⟩:=x;simp only at hop n1 n2 m4 m5 ⊢;subst hop;have HE:=hid (show Zm ⟨4,dst,a,b,n,fn,args,labels⟩=(((((((!a.isEmpty|| !b.isEmpty)|| !(n == 0))|| !args.isEmpty)|| !labels.isEmpty))||((dst.isEmpty||fn.isEmpty)))||(false)) by simp[Zm,Y1,Y6,Y0,Yj,Bool.or_assoc]);obtain⟨w2,hw2⟩:∃ w2:World,w2=(w.alloc (.cells #[.int .i64 pt.1,.int .i64 pt.2.1,.int .i64 pt.2.2] 41)).alloc (.cells #[.int .u8 (4:Int),.string ⟨dst.toArray⟩,.string ⟨a.toArray⟩,.string ⟨b.toArray⟩,.int .i64 n,.string ⟨fn.toArray⟩,.slice A4 args.length d4,.slice A5 labels.length d5] 25):=⟨_,rfl⟩
 have hb2:Below w.heap.size w w2:=by rw[hw2];exact ((Below.refl w.heap.size w).alloc (Nat.le_refl _) _).alloc (by simp) _
 have hx2:w2.heap[w.heap.size+1]?=some (.cells #[.int .u8 (4:Int),.string ⟨dst.toArray⟩,.string ⟨a.toArray⟩,.string ⟨b.toArray⟩,.int .i64 n,.string ⟨fn.toArray⟩,.slice A4 args.length d4,.slice A5 labels.length d5] 25 (0,0)):=by
  have:=World.alloc_heap_new (w.alloc (.cells #[.int .i64 pt.1,.int .i64 pt.2.1,.int .i64 pt.2.2] 41)) (.cells #[.int .u8 (4:Int),.string ⟨dst.toArray⟩,.string ⟨a.toArray⟩,.string ⟨b.toArray⟩,.int .i64 n,.string ⟨fn.toArray⟩,.slice A4 args.length d4,.slice A5 labels.length d5] 25);rw[hw2];simpa using this
 have hs2:w2.heap.size=w.heap.size+2:=by rw[hw2];simp
 have hm2:=(hb2.block mb hmbl).trans hmb;have hlkA:=Zu (w:=w2.drew) hm2 4;have hlkB:=fun o1=>Zu (w:=(w2.alloc o1).drew) (Zc hm2 o1) 4
 rw[show ((4:Nat):Int)=4 from rfl] at hlkA hlkB;simp only[Ym,Y0,shpV,Option.getD_some,Option.getD_none,Option.isSome_some,Option.isSome_none] at hlkA hlkB;have hbox2:=cur hb2 hlt hbox;have c12:=cur hb2 hwl c1;obtain⟨k1,k2⟩:=Za hx2;have hl1:cb<w2.heap.size:=by omega
 have hl2:wb<w2.heap.size:=by omega
 have hl3:w.heap.size+1<w2.heap.size:=by omega
 have hl4:w.heap.size+1≠w2.heap.size:=by omega
 have Hb2:=hid hb2;have Hx2:=hid hx2;have Hs2:=hid hs2;have hcl:=fun w'=>Y9 4 w' (by omega)
 rw[show ((4:Nat):Int)=4 from rfl] at hcl;simp only[Yj,Nat.reduceBEq,Bool.or_false,Bool.or_true,Bool.false_or] at hcl;have e1:(n == 0)=decide (n=0):=rfl;clear e1;go_enter Tryz.func209,Tryz.ntmps209;go_wp2_with fail;rw[←hw2];clear hw2 hx2 hm2 hbox c1 hmb hb2 hs2;go_region;clear hlkA hlkB;go_upto_region 2 with (fail)
 simp only[List.append];obtain⟨w3,hw3⟩:∃ w3:World,w3=(w2.alloc (.cells (#[.bool true,.bool false,.bool false,.bool false,.bool true,.bool false,.bool false]) 273)).drew:=⟨_,rfl⟩
 obtain⟨gs,hgs⟩:∃ gs,gs=w2.heap.size:=⟨_,rfl⟩
 obtain⟨gx,hgx⟩:∃ gx,gx=w.heap.size+1:=⟨_,rfl⟩
 rw[←hw3,←hgs,←hgx];have hs3:=World.alloc_heap_new w2 (.cells (#[.bool true,.bool false,.bool false,.bool false,.bool true,.bool false,.bool false]) 273);obtain⟨k3,k4⟩:=Za (w:=w3) (g:=gs) (by rw[hw3,hgs];exact hs3);obtain⟨k1,k2⟩:=Za (w:=w3) (g:=gx) (by rw[hw3,hgx];exact Zc Hx2.out _);have Hb3:=hid (show Below w.heap.size w w3 by rw[hw3];exact (Hb2.out.alloc (by have:=Hs2.out;omega) _).drew);clear hs3 hw3 hgs hgx k2 k4 hbox2 c12 hl1 hl2 hl3 hl4;go_cut [91] (fun s91 wx=>s91=.bool (((((!a.isEmpty|| !b.isEmpty)|| !(n == 0))|| !args.isEmpty)|| !labels.isEmpty))∧wx=w3)
 case first=>
  cases ha:a.isEmpty with
  |false=>
   have HR:=hid (show (((((!a.isEmpty|| !b.isEmpty)|| !(n == 0))|| !args.isEmpty)|| !labels.isEmpty))=true by rw[ha];rfl);go_wp2_with fail;go_meet
   first|exact⟨by rw[HR.out],rfl⟩|exact⟨rfl,rfl⟩
  |true=>
   cases hb:b.isEmpty with
   |false=>
    have HR:=hid (show (((((!a.isEmpty|| !b.isEmpty)|| !(n == 0))|| !args.isEmpty)|| !labels.isEmpty))=true by rw[ha,hb];rfl);go_wp2_with fail;go_meet
    first|exact⟨by rw[HR.out],rfl⟩|exact⟨rfl,rfl⟩
   |true=>
    cases hn:(n == 0) with
    |false=>
     have HR:=hid (show (((((!a.isEmpty|| !b.isEmpty)|| !(n == 0))|| !args.isEmpty)|| !labels.isEmpty))=true by rw[ha,hb,hn];rfl);have en:(n != 0)=true:=by rw[bne_iff_ne];exact ne_of_beq_false hn
     go_wp2_with fail;go_meet
     first|exact⟨by rw[HR.out],rfl⟩|exact⟨rfl,rfl⟩
    |true=>
     cases hargs:args.isEmpty with
     |false=>
      have HR:=hid (show (((((!a.isEmpty|| !b.isEmpty)|| !(n == 0))|| !args.isEmpty)|| !labels.isEmpty))=true by rw[ha,hb,hn,hargs];rfl);have en:(n != 0)=false:=by rw[bne_eq_false_iff_eq];exact eq_of_beq hn
      have eargs:args≠[]:=List.isEmpty_eq_false_iff.1 hargs;have eargsB:0<args.length:=List.length_pos_iff.2 eargs;go_wp2_with fail;go_meet
      first|exact⟨by rw[HR.out],rfl⟩|exact⟨rfl,rfl⟩
     |true=>
      cases hlabels:labels.isEmpty with
      |false=>
       have HR:=hid (show (((((!a.isEmpty|| !b.isEmpty)|| !(n == 0))|| !args.isEmpty)|| !labels.isEmpty))=true by rw[ha,hb,hn,hargs,hlabels];rfl);have en:(n != 0)=false:=by rw[bne_eq_false_iff_eq];exact eq_of_beq hn
       obtain rfl:=List.isEmpty_iff.1 hargs;have elabels:labels≠[]:=List.isEmpty_eq_false_iff.1 hlabels;have elabelsB:0<labels.length:=List.length_pos_iff.2 elabels;go_wp2_with fail;go_meet
       first|exact⟨by rw[HR.out],rfl⟩|exact⟨rfl,rfl⟩
      |true=>
       have HR:=hid (show (((((!a.isEmpty|| !b.isEmpty)|| !(n == 0))|| !args.isEmpty)|| !labels.isEmpty))=false by rw[ha,hb,hn,hargs,hlabels];rfl);have en:(n != 0)=false:=by rw[bne_eq_false_iff_eq];exact eq_of_beq hn
       obtain rfl:=List.isEmpty_iff.1 hargs;obtain rfl:=List.isEmpty_iff.1 hlabels;go_wp2_with fail;go_meet
       first|exact⟨by rw[HR.out],rfl⟩|exact⟨rfl,rfl⟩
 case rest=>
  obtain⟨rfl,rfl⟩:=hcut
  cases hB1:(((((!a.isEmpty|| !b.isEmpty)|| !(n == 0))|| !args.isEmpty)|| !labels.isEmpty)) with
  |true=>
   have HR:=hid (show Zm ⟨4,dst,a,b,n,fn,args,labels⟩=true by rw[HE.out,hB1];rfl);clear hB1;go_wp2_with fail;go_ret;exact⟨by rw[HR.out];rfl,Hb3.out⟩
  |false=>
   have HB1:=hid hB1;clear hB1;go_upto_region 4 with (fail)
   go_cut [136] (fun s136 wx=>s136=.bool ((dst.isEmpty||fn.isEmpty))∧wx=wc)
   case first=>
    cases hdst:dst.isEmpty with
    |true=>
     have HR:=hid (show ((dst.isEmpty||fn.isEmpty))=true by simp[hdst]);go_wp2_with (go_at_call 205;refine (hcl _).mono ?_;rintro e w' ⟨rfl,rfl⟩);go_meet
     first|exact⟨by rw[HR.out],rfl⟩|exact⟨rfl,rfl⟩
    |false=>
     cases hfn:fn.isEmpty with
     |true=>
      have HR:=hid (show ((dst.isEmpty||fn.isEmpty))=true by simp[hdst,hfn]);go_wp2_with (go_at_call 205;refine (hcl _).mono ?_;rintro e w' ⟨rfl,rfl⟩);go_meet
      first|exact⟨by rw[HR.out],rfl⟩|exact⟨rfl,rfl⟩
     |false=>
      have HR:=hid (show ((dst.isEmpty||fn.isEmpty))=false by simp[hdst,hfn]);go_wp2_with (go_at_call 205;refine (hcl _).mono ?_;rintro e w' ⟨rfl,rfl⟩);go_meet
      first|exact⟨by rw[HR.out],rfl⟩|exact⟨rfl,rfl⟩
   case rest=>
    obtain⟨rfl,rfl⟩:=hcut
    cases hB2:((dst.isEmpty||fn.isEmpty)) with
    |true=>
     have HR:=hid (show Zm ⟨4,dst,a,b,n,fn,args,labels⟩=true by rw[HE.out,HB1.out,hB2];rfl);clear hB2;go_wp2_with fail;go_ret;exact⟨by rw[HR.out];rfl,Hb3.out⟩
    |false=>
     have HR:=hid (show Zm ⟨4,dst,a,b,n,fn,args,labels⟩=(false) by rw[HE.out,HB1.out,hB2];rfl);clear hB2;go_wp2_with fail;go_ret;exact⟨by rw[HR.out];simp,Hb3.out⟩
end Go.Proofs.YtphnnmecmiodhaaGreat

/- maps. Conditions in it. -/
import Derived.Test.YtphnnmecmiodhaaGreatERna
import Derived.Test.YtphnnmecmiodhaaGreatESrt
set_option maxHeartbeats 4000000
set_option maxRecDepth 100000
set_option linter.all false
namespace Go.Proofs.YtphnnmecmiodhaaGreat
open Lib(hid)
section
open Go.RowKit Go.Shelf
attribute [local go_sem] Oper.semAt_some
theorem Yes:(Tryz.prog.info? 93).map (fun i=>(i.zero,i.size,i.bytes))=some (some (.agg #[.int .i64 0,.int .i64 0,.int .i64 0,.int .i64 0,.int .i64 0]),5,40):=by kernel_rfl
theorem Ycl (b:Nat) (w:World):Calls Tryz.prog 130 #[.map (some b)] w fun e w'=>e=.returned (.func (.func 195) #[] #[.pointer (some ⟨w.heap.size,0,none⟩)])/\w'=w.alloc (.cells #[.map (some b)] 163):=by
 go_enter Tryz.func130,Tryz.ntmps130;go_wp2;go_ret;exact⟨rfl,rfl⟩
theorem Ycd (n:Nat) (hn:1<=n) (l cb b:Nat) (m:List (FK×Bool)) (J Jx:List FK->World->Prop) (W:World) (hJ:AbidesFrom W.heap.size J)
  (hY:∀ pre x W,J pre W->pre.length<m.length->YieldAt Fence.wide (n-1) Tryz.prog l #[Zze x] W fun e W'=>(e=.returned (.bool true)/\J (pre++[x]) W'/\KeepsWalks W W')\/(e=.returned (.bool false)/\Jx (pre++[x]) W'))
  (hm:W.cell? ⟨cb,0,none⟩=some (.map (some b))) (hb:W.heap[b]?=some (Z7 Zze Value.bool m)) (h0:J [] W):
  CallsIn Fence.wide n Tryz.prog 195 #[.func (.yield l) #[] #[],.pointer (some ⟨cb,0,none⟩)] W fun e W'=>(∃ v,e=.returned v)/\((∃ xs,xs.Perm (m.map (·.1))/\J xs W')\/(∃ pre,True/\Jx pre W')):=by
 have hJh:=hid hJ;have hYh:=hid hY;have H0:=hid h0;have HB:=hid hb;clear hJ hY h0 hb;refine callsIn_of_wp Tryz.func195 rfl trivial ?_ rfl;simp only[Tryz.ntmps195,List.size_toArray,List.length_cons,List.length_nil,Nat.reduceAdd,Nat.reduceSub,Array.replicate_succ,Array.replicate_zero,List.push_toArray,List.append_toArray,List.nil_append,List.cons_append]
 gi_wp2_with (first
              |(gi_at_range;refine Zzz rfl _ _ rfl 93 4 Tryz.underlying163 b m rfl HB.out ?_;intro w0 hrg0 hg0 hs0;have Hr0:=hid hrg0;have Hg0:=hid hg0;clear hrg0 hg0 hs0;go_frame)
              |gi_in)
 obtain⟨r,hr⟩:∃ r,r=W.heap.size:=⟨_,rfl⟩
 rw[<-hr] at Hr0 ⊢;have Hr:=hid hr;clear hr hm;gi_loopw [3] (fun _ wr=>∃ S:List Nat,Hid (RngAt Zze Value.bool wr r b m S/\J (Zzo m S) wr)) (fun _ wr=>m.length-rngN wr r)
 case atStart=>exact⟨[],hid ⟨Hr0.out,hJh.out [] W w0 none H0.out Hg0.out (fun r e=>by cases e)⟩⟩
 case round=>
  obtain⟨S,hh⟩:=hrel
  gi_wp2_with (first
               |(gi_at_next;refine Yad rfl _ rfl r b m S rfl hh.out.1 (fun hdone=>?_) (fun i k v w5 hk hiS hr5 hg5 hs5 hen=>?_);all_goals (try (simp only[Zze] at hen ⊢)))
               |gi_in)
  ·have HD:=hid hdone;clear hdone;gi_wp2;go_end0;exact⟨⟨_,rfl⟩,.inl ⟨_,Yba HD.out,hh.out.2⟩⟩
  ·have hJ5:J (Zzo m S) w5:=hJh.out _ wr w5 (some r) hh.out.2 hg5 (fun j e=>by
    cases e
    obtain⟨c,-,e⟩:=hh.out.1.it
    exact⟨by rw[Hr.out];exact Lf _,_,e,rfl⟩)
   obtain⟨w6,hw6⟩:∃ w6,w6=w5.alloc (.cells #[.int .i64 k.1.1,.int .i64 k.1.2.1,.int .i64 k.1.2.2,.int .i64 k.2.1,.int .i64 k.2.2] 93):=⟨_,rfl⟩
   have hJ6:J (Zzo m S) w6:=hJh.out _ w5 w6 none hJ5 (by rw[hw6];exact Lc _ _ _) (fun r e=>by cases e);have hk6:KeepsWalks w5 w6:=by rw[hw6];exact KeepsWalks.alloc _ _
   have hf:=Ycz hr5;rw[List.length_append,List.length_singleton] at hf;have hlt:(Zzo m S).length<m.length:=by have:=Ybb m S;omega
   obtain⟨fn,tmps,assign,body,hy,hR⟩:=hYh.out _ k w6 hJ6 hlt;simp only[Zze] at hy;have HR:=hid (Yar (S:=S) hk);have Hr6:=hid (hr5.walks hk6);have Hf:=hid hf;clear hk hiS hr5 hg5 hs5 hJ5 hJ6 hk6 hf hlt;rw[<-hw6];clear hw6 hen;rw[hy];go_simp;refine hR.mono ?_;rintro e W3 (⟨rfl,hJ3,hk3⟩|⟨rfl,hJx3⟩)
   ·gi_wp2;have hr9:=Hr6.out.walks hk3;go_roundw
    case rel=>exact⟨S++[i],hid ⟨hr9,by rw[HR.out];exact hJ3⟩⟩
    case measure=>rw[Yav hr9,Yav hh.out.1,List.length_append,List.length_singleton];have:=Hf.out;omega
   ·gi_wp2;refine bodyPost_ret (results_none rfl _ _ _) rfl ?_;exact⟨⟨_,rfl⟩,.inr ⟨_,trivial,hJx3⟩⟩
theorem Ybo (n:Nat) (hn:1<=n) (cb b:Nat) (m:List (FK×Bool)) (w:World) (hm:w.cell? ⟨cb,0,none⟩=some (.map (some b))) (hb:w.heap[b]?=some (Z7 Zze Value.bool m)):
  SeqStopsK Fence.wide n Tryz.prog 195 #[.pointer (some ⟨cb,0,none⟩)] (fun x=> #[Zze x]) KeepsWalks (fun xs=>xs.Perm (m.map (·.1))) (fun _=>True) m.length w:=fun l J Jx W hW hJ _ hY h0=>
 Ycd n hn l cb b m J Jx W hJ hY ((Lj (hW.block _ (World.block_lt_of_cell? w ⟨cb,0,none⟩ hm))).trans hm) ((hW.block _ (Ze hb)).trans hb) h0
theorem Yde (cb b:Nat) (m:List (FK×Bool)) (hml:m.length<=1000000000000) (w:World) (hm:w.cell? ⟨cb,0,none⟩=some (.map (some b))) (hb:w.heap[b]?=some (Z7 Zze Value.bool m)):
  Calls Tryz.prog 242 #[.slice none 0 0,.func (.func 195) #[] #[.pointer (some ⟨cb,0,none⟩)]] w fun e w'=>∃ (xs:List FK) (v:Value),e=.returned v/\xs.Perm (m.map (·.1))/\w'.ownsRow w.heap.size 93 5 v xs.length (xs.flatMap clF)/\w.grownBy w' none:=by
 refine (callsIn_wide (n:=8)).1 ?_;refine callsIn_of_wp_marks Tryz.func242 rfl trivial ?_ rfl;refine wpIn_wide.2 ?_;simp only[Tryz.ntmps242,List.size_toArray,List.length_cons,List.length_nil,Nat.reduceAdd,Nat.reduceSub,Array.replicate_succ,Array.replicate_zero,List.push_toArray,List.append_toArray,List.nil_append,List.cons_append];go_wp2;obtain⟨ob,hob⟩:∃ ob,ob=w.heap.size:=⟨_,rfl⟩
 obtain⟨wc,hwc⟩:∃ wc,wc=w.alloc (.cells #[.slice none 0 0] 84):=⟨_,rfl⟩
 have hgc:w.grownBy wc none:=by rw[hwc];exact Lc _ _ _
 have hbo:wc.heap[ob]?=some (.cells #[.slice none 0 0] 84 (0,0)):=by rw[hwc,hob];exact La _ _
 rw[<-hwc,<-hob];have hcs:=hgc.size;have hol:=Ze hbo;have Hob:=hid hob;clear hwc hob
 refine (wpIn_wide (n:=8)).1 (wpIn_rangeFunc_ownH rfl (by omega) (gf:=195) (lb:= #[.pointer (some ⟨cb,0,none⟩)]) rfl trivial (enters_of Tryz.func195 (by kernel_rfl) rfl)
                              (Ybo 7 (by omega) cb b m wc (Zyz hgc hm) ((hgc.block _ (Ze hb) (by simp)).trans hb)) (fun h k=>h.trans k) (fun W l o o' _ h1 h2 h3=>KeepsWalks.putObj o' h1 h3) (Below.refl _ _) (fun _=>rfl)
                              (fun (pre:List FK) W=>BoxI wc ob 84 93 5 (pre.flatMap clF) pre.length W)
                              (fun _ _ _=>False) (Ybx hol) (fun c=>fun _ _ _ _ h _ _=>h) ⟨⟨_,hbo,World.ownsRow_nil _ _ _ _⟩,.refl _ _⟩
                              (fun x a' W=>∃ b7,wc.heap.size<=b7/\
                               W.heap[b7]?=some (.cells #[.int .i64 x.1.1,.int .i64 x.1.2.1,.int .i64 x.1.2.2,.int .i64 x.2.1,.int .i64 x.2.2] 93 (0,0))/\
                               a'={ tmps:= #[.slice none 0 0,.func (.func 195) #[] #[.pointer (some ⟨cb,0,none⟩)],.pointer (some ⟨ob,0,none⟩),undef,.slice none 0 0,.pointer (some ⟨b7,0,none⟩),.func (.func 195) #[] #[.pointer (some ⟨cb,0,none⟩)],Zze x,undef,undef,undef,undef,undef],defers:=[] })
                              ?hAx ?assign ?body ?done ?stop)
 case hAx=>
  rintro y a' _ X Y row hs hg hr;obtain⟨b7,h1,h2,h3⟩:=hs
  exact⟨b7,h1,(hg.block b7 (Ze h2) (fun e=>by
   obtain⟨_,o,ho,hc⟩:=hr b7 e.symm
   rw[h2] at ho
   cases ho
   cases hc)).trans h2,h3⟩
 case assign=>
  intro l pre x W K hI hK;have hWs:=hI.chg.size;have HI:=hid hI;clear hI;simp only[Zze] at hK ⊢;gi_wp2;have h7:=La W (.cells #[.int .i64 x.1.1,.int .i64 x.1.2.1,.int .i64 x.1.2.2,.int .i64 x.2.1,.int .i64 x.2.2] 93);exact hK _ _ ((KeepsOthers.alloc _ _).from _) (KeepsWalks.alloc _ _)
   (HI.out.keep (Q:=fun _=>False) (Chg.alloc _ W _) (fun e=>e) (fun _ _ e=>e) (fun _ _ _ _ e=>e)) ⟨W.heap.size,hWs,h7,rfl⟩
 case body=>
  rintro l pre x a' W hlo hlr hI ⟨b7,h7,h8,ha'⟩ hpl;subst ha';have hWs:=hI.chg.size;obtain⟨v,hv1,hv2⟩:=hI.blk;have k8:∀ i,W.cell? ⟨b7,i,none⟩=(#[.int .i64 x.1.1,.int .i64 x.1.2.1,.int .i64 x.1.2.2,.int .i64 x.2.1,.int .i64 x.2.2]:Array Value)[i]?:=(Za h8).1;have k0:=k8 0;have k1:=k8 1;have k2:=k8 2;have k3:=k8 3;have k4:=k8 4;have ko0:W.cell? ⟨ob,0,none⟩=some v:=(Za hv1).1 0;obtain⟨wA,hwA⟩:∃ wA,wA=W.alloc (.cells #[.int .i64 x.1.1,.int .i64 x.1.2.1,.int .i64 x.1.2.2,.int .i64 x.2.1,.int .i64 x.2.2] 93):=⟨_,rfl⟩
  have hgA:W.grownBy wA none:=by rw[hwA];exact Lc _ _ none
  have hbA:wA.heap[W.heap.size]?=some (.cells #[.int .i64 x.1.1,.int .i64 x.1.2.1,.int .i64 x.1.2.2,.int .i64 x.2.1,.int .i64 x.2.2] 93 (0,0)):=by rw[hwA];exact La _ _
  have hoA:wA.ownsRow wc.heap.size 93 5 v pre.length (pre.flatMap clF):=(Chg.grown (Q:=fun _=>False) hgA (fun r e=>by cases e)).owns hv2 (fun _ _ e=>e);have hsA:=hgA.size;have hobl:=Ze hv1;have Hkp:=hid (show ∀ W',wA.grownBy W' v.ownBlock->W'.heap[ob]?=some (.cells #[v] 84 (0,0)) from fun W' hg=>(hg.block ob (by omega) (fun e=>by have:=(hv2.lt ob e.symm).1;omega)).trans ((hgA.block ob hobl (by simp)).trans hv1));have Hv2:=hid hv2;have HI:=hid hI;have HgA:=hid hgA;have HA:=hid (And.intro hbA hoA);have Hln:=hid (show pre.length<1000000000000 by omega);clear k8 h8 hI hv1 hv2 hgA hbA hoA hpl;gi_wp2_with (first|(gi_at_builtin;go_must (rw[<-hwA];refine Yah rfl (.tmp 8) (.tmp 10) 84 rfl wc.heap.size 93 _ 5 40 Tryz.underlying84 Yes rfl (by decide) v _ _ rfl HA.out.2 W.heap.size (clF x) rfl (by simp[clF,Value.oneCell']) rfl _ _ HA.out.1 rfl (by have:=Hln.out;unfold maxLen;omega) (by have:=Hln.out;omega) (by omega) ?_;intro g c' w10 h1 h2 h3;have hb10:=Hkp.out w10 h2;obtain⟨kx,fx⟩:=Za hb10;have kx0:=kx 0;have fx0:=fx 0;clear kx fx;have H1:=hid h1;have H2:=hid h2;have H3:=hid h3;have Hb10:=hid hb10;clear h1 h2 h3 hb10))|gi_in);have h1:=H1.out;have h2:=H2.out;have hb10:=Hb10.out;have hs10:=h2.size;have hov:∀ n,v.ownBlock=some n->wc.heap.size<=n:=fun n e=>(Hv2.out.lt n e).1
  have hc1:Chg (fun n=>n=ob\/v.ownBlock=some n) W (w10.setCell ⟨ob,0,none⟩ (.slice (some ⟨g,0,none⟩) (pre.length+1) c')):=
   ((Chg.grown (Q:=fun n=>n=ob\/v.ownBlock=some n) HgA.out (fun r e=>by cases e)).trans (Chg.grown (Q:=fun n=>n=ob\/v.ownBlock=some n) h2 (fun r e=>.inr e)) (fun _ _ e=>e)).trans (Chg.set (Q:=fun n=>n=ob\/v.ownBlock=some n) w10 (p:=⟨ob,0,none⟩) (.inl rfl) _) (fun _ _ e=>e)
  have ho10:=(Chg.set (Q:=fun n=>n=ob) w10 (p:=⟨ob,0,none⟩) rfl (.slice (some ⟨g,0,none⟩) (pre.length+1) c')).owns h1 (fun n e=>by have:=(h1.lt n e).1;show ¬ n=ob;omega);refine⟨?_,(KeepsWalks.of_grownBy HgA.out (fun r _ e=>by cases e)).trans ((KeepsWalks.of_grownBy h2 (fun j o hj ho=>by obtain⟨cs,t,f,hk⟩:=Zzr HA.out.2 hj;rw[hk] at ho;cases ho;rfl)).trans (KeepsWalks.setCell _ _ _)),?_⟩
  ·exact ((Vd HgA.out (fun r e=>by cases e)).trans ((Vd h2 (fun r e=>Zzr HA.out.2 e)).trans (KeepsOthers.setCell w10 ⟨ob,0,none⟩ _))).from _
  ·refine⟨⟨_,Zs hb10 0 _,by simpa using ho10⟩,HI.out.chg.trans hc1 (fun n hn e=>?_)⟩
   rcases e with e|e
   ·exact e
   ·have:=hov n e;omega
 case done=>
  rintro D xs W hD hS hI hK;obtain⟨v,hv1,hv2⟩:=hI.blk;have hWs:=hI.chg.size;have hcW:Chg (fun n=>n=ob) w W:=(Chg.grown (Q:=fun n=>n=ob) hgc (fun r e=>by cases e)).trans hI.chg (fun _ _ e=>e);obtain⟨ko,-⟩:=Za hv1;have ko0:W.cell? ⟨ob,0,none⟩=some v:=ko 0;have HcW:=hid hcW;have HI:=hid hI;have Hv2:=hid hv2;clear hI hcW hv1 hv2 ko;go_wp2_with fail;refine⟨by simp,.inl ⟨_,_,rfl,run_takeDeferred hK,?_⟩⟩;have hcD:Chg (fun n=>n=D) W (W.putObj D (.deferred none)):=Chg.turned (Q:=fun n=>n=D) (Turned.putObj _ D _) rfl;refine⟨v,by simp[results,Tryz.f242,go_sem],xs,v,rfl,hS,?_,?_⟩
  ·refine Zzu (hcD.owns Hv2.out (fun g e=>?_)) (by omega);show ¬ g=D;rintro rfl;obtain⟨cs,t,fr,hk⟩:=Zzr Hv2.out e;rw[hk] at hK
   cases hK
  ·exact Chg.all (Chg.trans (Q:=fun n=>n=ob\/n=D) (HcW.out.mono (fun n _ e=>.inl e)) hcD (fun n _ e=>.inr e)) (fun n hn e=>by have:=Hob.out;omega)
 case stop=>
  rintro D c pre W hD hS hX hK;exact hX.elim
end
section
open Go.RowKit Go.Shelf Go.Sort
def Zza (x:FK):List Int:=[x.1.1,x.1.2.1,x.1.2.2,x.2.1,x.2.2]
theorem Ydg {x y:FK} (h:Zza x=Zza y):x=y:=by
 obtain⟨⟨a,b,c⟩,d,e⟩:=x;obtain⟨⟨a',b',c'⟩,d',e'⟩:=y;simp only[Zza,List.cons.injEq] at h;obtain⟨h1,h2,h3,h4,h5,-⟩:=h;simp only[Prod.mk.injEq];omega
theorem cmpF_at (x y:FK) (W:World):Calls Tryz.prog 47 #[.agg (clF x).toArray,.agg (clF y).toArray] W fun e w'=>e=.returned (.int .i64 (Zzb (Zza x) (Zza y)))/\∃ n os,w'=grow (W.drewN n) os:=Yae _ _ _ _ _ _ _ _ _ _ W
theorem swoF:SWO (ltOf fun x y:FK=>Zzb (Zza x) (Zza y)) where
 irrefl x:=by show decide (Zzb _ _<0)=false;rw[Zzt];rfl
 trans x y z h1 h2:=decide_eq_true (Zzn (m:=Zza y) rfl rfl (of_decide_eq_true h1) (of_decide_eq_true h2))
 ntrans x y z h1 h2:=by
  have h3:¬ Zzb (Zza x) (Zza y)<0:=of_decide_eq_false h1;have h4:¬ Zzb (Zza y) (Zza z)<0:=of_decide_eq_false h2;refine decide_eq_false fun (h5:Zzb (Zza x) (Zza z)<0)=>?_
  have h6:=Zzx (l:=Zza x) (m:=Zza y)
  rcases Zzs (Zza y) (Zza x) with h|h|h
  ·exact h4 (Zzn (m:=Zza x) rfl rfl (by omega) h5)
  ·rw[Yao (l:=Zza y) (m:=Zza x) rfl h] at h4;exact h4 h5
  ·omega
theorem Ydo {base:Nat} {v:Value} {L:List FK} (hnd:L.Nodup) (hn:L.length<4611686018427387904) (W:World) (h:W.ownsRow base 93 5 v L.length (L.flatMap clF)):
  Calls Tryz.prog 85 #[v,.func (.func 47) #[] #[]] W fun e w'=>e=.returned (.tuple #[])/\∃ L':List FK,L'.Perm L/\L'.Pairwise (fun x y=>Zzb (Zza x) (Zza y)<0)/\w'.ownsRow base 93 5 v L'.length (L'.flatMap clF)/\W.grownBy w' v.ownBlock:=by
 have h':=h
 rcases h.2 with ⟨rfl,h0⟩|⟨g,cap,cur,rfl,hbase,hh,h1,h2,h3,h4⟩
 ·have hl:L=[]:=List.eq_nil_of_length_eq_zero h0;subst hl;refine (AnyF.slices_SortFunc_none Tryz.sortFact none 0 (.func (.func 47) #[] #[]) W).mono ?_;rintro e w' ⟨rfl,rfl⟩;exact⟨rfl,[],List.Perm.refl _,by simp,h',Lb _ _⟩
 ·have eg:∀ args w,(callFunc 47 args).run Tryz.prog w=.ok (.enter 47 args) w:=enters_of Tryz.func47 (by kernel_rfl) rfl;have hk:∀ x,(clF x).length=5:=fun _=>rfl
  have ho:W.ownsRow base 93 5 (.slice (some ⟨g,0,none⟩) L.toArray.size cap) L.toArray.size (L.toArray.toList.flatMap clF):=h';have hc:=AnyQ.slices_SortFunc Tryz.sortFact 5 Tryz.isAgg93 Tryz.sizeOf93 clF hk (fun x v hv=>by simp[clF] at hv;rcases hv with rfl|rfl|rfl|rfl|rfl<;>rfl) (fun x y=>Zzb (Zza x) (Zza y)) swoF 47 #[] g 0 cap L.toArray W eg (fun _ _ _ _ x y=>cmpF_at x y _) (Zyk hk ho) (Ze hh) (by simpa using hn);refine hc.mono ?_;rintro e w' ⟨rfl,d',n,os,hp,hs,rfl⟩;have hsz:d'.size=L.length:=hp.1.trans (by simp);have hpl:d'.toList.Perm L:=by
   have:=hp.2.2;rw[<-hsz.trans (by simp:L.length=L.toArray.size),Array.extract_size] at this;rw[hsz.trans (by simp:L.length=L.toArray.size),Array.extract_size] at this;simpa using this
  refine⟨rfl,d'.toList,hpl,?_,?_,Zxu d'⟩
  ·have hd:d'.toList.Nodup:=hpl.nodup_iff.2 hnd;rw[List.nodup_iff_pairwise_ne,List.pairwise_iff_getElem] at hd;rw[List.pairwise_iff_getElem];intro i j hi hj hij;have hne:=hd i j hi hj hij;rw[Array.length_toList] at hi hj;have:=hs i j (Ln _) hij (by simpa [<-hsz] using hj);rw[getElem!_pos d' i hi,getElem!_pos d' j hj] at this;have h5:¬ Zzb (Zza d'[j]) (Zza d'[i])<0:=of_decide_eq_false this;simp only[Array.getElem_toList] at hne ⊢;have h6:=Zzx (l:=Zza d'[i]) (m:=Zza d'[j])
   rcases Zzs (Zza d'[i]) (Zza d'[j]) with h|h|h
   ·omega
   ·exact absurd (Ydg (Yao (l:=Zza d'[i]) (m:=Zza d'[j]) rfl h)) hne
   ·omega
  ·have:=Zxz (n:=n) (os:=os) hk (d':=d') (by simpa using hsz) ho;rw[show L.toArray.size=d'.toList.length by simp[hsz]] at this;rw[show L.length=d'.toList.length by simp[hsz]];exact this
theorem Ydl (b:Nat) (m:List (FK×Bool)) (hnd:(m.map (·.1)).Nodup) (hml:m.length<=1000000000000) (w:World) (hb:w.heap[b]?=some (Z7 Zze Value.bool m)):
  Calls Tryz.prog 95 #[.map (some b),.func (.func 47) #[] #[]] w fun e w'=>∃ (L:List FK) (v:Value),e=.returned v/\L.Perm (m.map (·.1))/\L.Pairwise (fun x y=>Zzb (Zza x) (Zza y)<0)/\w'.ownsRow w.heap.size 93 5 v L.length (L.flatMap clF)/\w.grownBy w' none:=by
 have hk:=Ycl b w;obtain⟨w1,hw1⟩:∃ w1,w1=w.alloc (.cells #[.map (some b)] 163):=⟨_,rfl⟩
 have hg1:w.grownBy w1 none:=by rw[hw1];exact Lc _ _ _
 have hc1:w1.cell? ⟨w.heap.size,0,none⟩=some (.map (some b)):=by rw[hw1];exact (Za (La _ _)).1 0
 rw[<-hw1] at hk;have ha:=Yde w.heap.size b m hml w1 hc1 ((hg1.block _ (Ze hb) (by simp)).trans hb);have Hg1:=hid hg1;have Hnd:=hid hnd;have Hml:=hid hml;clear hb hw1 hg1 hc1 hnd hml;obtain⟨u,hu⟩:∃ u,u=w.heap.size:=⟨_,rfl⟩
 rw[<-hu] at hk ha ⊢;have Hu:=hid hu;clear hu;have hsf:Calls Tryz.prog 129 #[.func (.func 195) #[] #[.pointer (some ⟨u,0,none⟩)],.func (.func 47) #[] #[]] w1 fun e w'=>∃ (L:List FK) (v:Value),e=.returned v/\L.Perm (m.map (·.1))/\L.Pairwise (fun x y=>Zzb (Zza x) (Zza y)<0)/\w'.ownsRow u 93 5 v L.length (L.flatMap clF)/\w.grownBy w' none:=by
  have hcl:Calls Tryz.prog 194 #[.func (.func 195) #[] #[.pointer (some ⟨u,0,none⟩)]] w1 fun e w'=>∃ (xs:List FK) (A:Option Addr) (c:Nat),e=.returned (.slice A xs.length c)/\xs.Perm (m.map (·.1))/\w'.ownsRow w1.heap.size 93 5 (.slice A xs.length c) xs.length (xs.flatMap clF)/\w1.grownBy w' none:=by
   clear hk;go_enter Tryz.func194,Tryz.ntmps194;go_wp2_with (go_at_call 242;refine ha.mono ?_;rintro e w2 ⟨xs,v,rfl,hp,ho,hg⟩;obtain⟨A,c,rfl,-,-,-,-⟩:=Zz ho;have HO:=hid (And.intro hp (And.intro ho hg));clear hp ho hg);go_ret;exact⟨xs,A,c,rfl,HO.out⟩
  clear hk ha;go_enter Tryz.func129,Tryz.ntmps129;go_upto_region 2 with (go_at_call 194;refine hcl.mono ?_;rintro e w2 ⟨xs,A,c,rfl,hO⟩;have HO:=hid hO;clear hO hcl)
  have hln:xs.length=m.length:=by have:=HO.out.1.length_eq;simpa using this
  have hst:=Ydo (HO.out.1.nodup_iff.2 Hnd.out) (by have:=Hml.out;omega) w2 HO.out.2.1;clear hln;go_wp2_with (go_at_call 85;refine hst.mono ?_;rintro e w3 ⟨rfl,L',hp',hs',ho',hg'⟩;have HL:=hid (And.intro hp' (And.intro hs' (And.intro ho' hg')));clear hp' hs' ho' hg');go_ret;obtain⟨hp',hs',ho',hg'⟩:=HL.out;have:=Hg1.out.size;have hu:=Hu.out;refine⟨L',_,rfl,hp'.trans HO.out.1,hs',Zzu ho' (by omega),(Zb Hg1.out HO.out.2.2).andThen hg' (fun j hj=>.inl ?_)⟩;have h1:=(HO.out.2.1.lt j hj).1;omega
 clear ha;go_enter Tryz.func95,Tryz.ntmps95;go_wp2_with (first|(go_at_call 130;refine hk.mono ?_;rintro e w2 ⟨rfl,rfl⟩)|(go_at_call 129;refine hsf.mono ?_;rintro e w2 ⟨L,v,rfl,hO⟩;obtain⟨A,c,rfl,-,-,-,-⟩:=Zz hO.2.2.1;have HO:=hid hO;clear hO));go_ret;exact⟨L,_,rfl,HO.out⟩
end
section
open Go.RowKit Go.Shelf
attribute [local go_sem] Oper.semAt_some
theorem Yer:(Tryz.prog.info? 81).map (fun i=>(i.zero,i.size,i.bytes))=some (some (.agg #[.int .i64 0,.int .i64 0,.int .i64 0,.int .i64 0]),4,32):=by kernel_rfl
theorem Yck (b:Nat) (w:World):Calls Tryz.prog 132 #[.map (some b)] w fun e w'=>e=.returned (.func (.func 198) #[] #[.pointer (some ⟨w.heap.size,0,none⟩)])/\w'=w.alloc (.cells #[.map (some b)] 164):=by
 go_enter Tryz.func132,Tryz.ntmps132;go_wp2;go_ret;exact⟨rfl,rfl⟩
theorem Ycc (n:Nat) (hn:1<=n) (l cb b:Nat) (m:List (CK×Bool)) (J Jx:List CK->World->Prop) (W:World) (hJ:AbidesFrom W.heap.size J)
  (hY:∀ pre x W,J pre W->pre.length<m.length->YieldAt Fence.wide (n-1) Tryz.prog l #[Zzj x] W fun e W'=>(e=.returned (.bool true)/\J (pre++[x]) W'/\KeepsWalks W W')\/(e=.returned (.bool false)/\Jx (pre++[x]) W'))
  (hm:W.cell? ⟨cb,0,none⟩=some (.map (some b))) (hb:W.heap[b]?=some (Z7 Zzj Value.bool m)) (h0:J [] W):
  CallsIn Fence.wide n Tryz.prog 198 #[.func (.yield l) #[] #[],.pointer (some ⟨cb,0,none⟩)] W fun e W'=>(∃ v,e=.returned v)/\((∃ xs,xs.Perm (m.map (·.1))/\J xs W')\/(∃ pre,True/\Jx pre W')):=by
 have hJh:=hid hJ;have hYh:=hid hY;have H0:=hid h0;have HB:=hid hb;clear hJ hY h0 hb;refine callsIn_of_wp Tryz.func198 rfl trivial ?_ rfl;simp only[Tryz.ntmps198,List.size_toArray,List.length_cons,List.length_nil,Nat.reduceAdd,Nat.reduceSub,Array.replicate_succ,Array.replicate_zero,List.push_toArray,List.append_toArray,List.nil_append,List.cons_append]
 gi_wp2_with (first
              |(gi_at_range;refine Zzz rfl _ _ rfl 81 4 Tryz.underlying164 b m rfl HB.out ?_;intro w0 hrg0 hg0 hs0;have Hr0:=hid hrg0;have Hg0:=hid hg0;clear hrg0 hg0 hs0;go_frame)
              |gi_in)
 obtain⟨r,hr⟩:∃ r,r=W.heap.size:=⟨_,rfl⟩
 rw[<-hr] at Hr0 ⊢;have Hr:=hid hr;clear hr hm;gi_loopw [3] (fun _ wr=>∃ S:List Nat,Hid (RngAt Zzj Value.bool wr r b m S/\J (Zzo m S) wr)) (fun _ wr=>m.length-rngN wr r)
 case atStart=>exact⟨[],hid ⟨Hr0.out,hJh.out [] W w0 none H0.out Hg0.out (fun r e=>by cases e)⟩⟩
 case round=>
  obtain⟨S,hh⟩:=hrel
  gi_wp2_with (first
               |(gi_at_next;refine Yad rfl _ rfl r b m S rfl hh.out.1 (fun hdone=>?_) (fun i k v w5 hk hiS hr5 hg5 hs5 hen=>?_);all_goals (try (simp only[Zzj] at hen ⊢)))
               |gi_in)
  ·have HD:=hid hdone;clear hdone;gi_wp2;go_end0;exact⟨⟨_,rfl⟩,.inl ⟨_,Yba HD.out,hh.out.2⟩⟩
  ·have hJ5:J (Zzo m S) w5:=hJh.out _ wr w5 (some r) hh.out.2 hg5 (fun j e=>by
    cases e
    obtain⟨c,-,e⟩:=hh.out.1.it
    exact⟨by rw[Hr.out];exact Lf _,_,e,rfl⟩)
   obtain⟨w6,hw6⟩:∃ w6,w6=w5.alloc (.cells #[.int .i64 k.1.1,.int .i64 k.1.2.1,.int .i64 k.1.2.2,.int .i64 k.2] 81):=⟨_,rfl⟩
   have hJ6:J (Zzo m S) w6:=hJh.out _ w5 w6 none hJ5 (by rw[hw6];exact Lc _ _ _) (fun r e=>by cases e);have hk6:KeepsWalks w5 w6:=by rw[hw6];exact KeepsWalks.alloc _ _
   have hf:=Ycz hr5;rw[List.length_append,List.length_singleton] at hf;have hlt:(Zzo m S).length<m.length:=by have:=Ybb m S;omega
   obtain⟨fn,tmps,assign,body,hy,hR⟩:=hYh.out _ k w6 hJ6 hlt;simp only[Zzj] at hy;have HR:=hid (Yar (S:=S) hk);have Hr6:=hid (hr5.walks hk6);have Hf:=hid hf;clear hk hiS hr5 hg5 hs5 hJ5 hJ6 hk6 hf hlt;rw[<-hw6];clear hw6 hen;rw[hy];go_simp;refine hR.mono ?_;rintro e W3 (⟨rfl,hJ3,hk3⟩|⟨rfl,hJx3⟩)
   ·gi_wp2;have hr9:=Hr6.out.walks hk3;go_roundw
    case rel=>exact⟨S++[i],hid ⟨hr9,by rw[HR.out];exact hJ3⟩⟩
    case measure=>rw[Yav hr9,Yav hh.out.1,List.length_append,List.length_singleton];have:=Hf.out;omega
   ·gi_wp2;refine bodyPost_ret (results_none rfl _ _ _) rfl ?_;exact⟨⟨_,rfl⟩,.inr ⟨_,trivial,hJx3⟩⟩
theorem Ybn (n:Nat) (hn:1<=n) (cb b:Nat) (m:List (CK×Bool)) (w:World) (hm:w.cell? ⟨cb,0,none⟩=some (.map (some b))) (hb:w.heap[b]?=some (Z7 Zzj Value.bool m)):
  SeqStopsK Fence.wide n Tryz.prog 198 #[.pointer (some ⟨cb,0,none⟩)] (fun x=> #[Zzj x]) KeepsWalks (fun xs=>xs.Perm (m.map (·.1))) (fun _=>True) m.length w:=fun l J Jx W hW hJ _ hY h0=>
 Ycc n hn l cb b m J Jx W hJ hY ((Lj (hW.block _ (World.block_lt_of_cell? w ⟨cb,0,none⟩ hm))).trans hm) ((hW.block _ (Ze hb)).trans hb) h0
theorem Ydd (cb b:Nat) (m:List (CK×Bool)) (hml:m.length<=1000000000000) (w:World) (hm:w.cell? ⟨cb,0,none⟩=some (.map (some b))) (hb:w.heap[b]?=some (Z7 Zzj Value.bool m)):
  Calls Tryz.prog 243 #[.slice none 0 0,.func (.func 198) #[] #[.pointer (some ⟨cb,0,none⟩)]] w fun e w'=>∃ (xs:List CK) (v:Value),e=.returned v/\xs.Perm (m.map (·.1))/\w'.ownsRow w.heap.size 81 4 v xs.length (xs.flatMap clC)/\w.grownBy w' none:=by
 refine (callsIn_wide (n:=8)).1 ?_;refine callsIn_of_wp_marks Tryz.func243 rfl trivial ?_ rfl;refine wpIn_wide.2 ?_;simp only[Tryz.ntmps243,List.size_toArray,List.length_cons,List.length_nil,Nat.reduceAdd,Nat.reduceSub,Array.replicate_succ,Array.replicate_zero,List.push_toArray,List.append_toArray,List.nil_append,List.cons_append];go_wp2;obtain⟨ob,hob⟩:∃ ob,ob=w.heap.size:=⟨_,rfl⟩
 obtain⟨wc,hwc⟩:∃ wc,wc=w.alloc (.cells #[.slice none 0 0] 100):=⟨_,rfl⟩
 have hgc:w.grownBy wc none:=by rw[hwc];exact Lc _ _ _
 have hbo:wc.heap[ob]?=some (.cells #[.slice none 0 0] 100 (0,0)):=by rw[hwc,hob];exact La _ _
 rw[<-hwc,<-hob];have hcs:=hgc.size;have hol:=Ze hbo;have Hob:=hid hob;clear hwc hob
 refine (wpIn_wide (n:=8)).1 (wpIn_rangeFunc_ownH rfl (by omega) (gf:=198) (lb:= #[.pointer (some ⟨cb,0,none⟩)]) rfl trivial (enters_of Tryz.func198 (by kernel_rfl) rfl)
                              (Ybn 7 (by omega) cb b m wc (Zyz hgc hm) ((hgc.block _ (Ze hb) (by simp)).trans hb)) (fun h k=>h.trans k) (fun W l o o' _ h1 h2 h3=>KeepsWalks.putObj o' h1 h3) (Below.refl _ _) (fun _=>rfl)
                              (fun (pre:List CK) W=>BoxI wc ob 100 81 4 (pre.flatMap clC) pre.length W)
                              (fun _ _ _=>False) (Ybx hol) (fun c=>fun _ _ _ _ h _ _=>h) ⟨⟨_,hbo,World.ownsRow_nil _ _ _ _⟩,.refl _ _⟩
                              (fun x a' W=>∃ b7,wc.heap.size<=b7/\
                               W.heap[b7]?=some (.cells #[.int .i64 x.1.1,.int .i64 x.1.2.1,.int .i64 x.1.2.2,.int .i64 x.2] 81 (0,0))/\
                               a'={ tmps:= #[.slice none 0 0,.func (.func 198) #[] #[.pointer (some ⟨cb,0,none⟩)],.pointer (some ⟨ob,0,none⟩),undef,.slice none 0 0,.pointer (some ⟨b7,0,none⟩),.func (.func 198) #[] #[.pointer (some ⟨cb,0,none⟩)],Zzj x,undef,undef,undef,undef,undef],defers:=[] })
                              ?hAx ?assign ?body ?done ?stop)
 case hAx=>
  rintro y a' _ X Y row hs hg hr;obtain⟨b7,h1,h2,h3⟩:=hs
  exact⟨b7,h1,(hg.block b7 (Ze h2) (fun e=>by
   obtain⟨_,o,ho,hc⟩:=hr b7 e.symm
   rw[h2] at ho
   cases ho
   cases hc)).trans h2,h3⟩
 case assign=>
  intro l pre x W K hI hK;have hWs:=hI.chg.size;have HI:=hid hI;clear hI;simp only[Zzj] at hK ⊢;gi_wp2;have h7:=La W (.cells #[.int .i64 x.1.1,.int .i64 x.1.2.1,.int .i64 x.1.2.2,.int .i64 x.2] 81);exact hK _ _ ((KeepsOthers.alloc _ _).from _) (KeepsWalks.alloc _ _)
   (HI.out.keep (Q:=fun _=>False) (Chg.alloc _ W _) (fun e=>e) (fun _ _ e=>e) (fun _ _ _ _ e=>e)) ⟨W.heap.size,hWs,h7,rfl⟩
 case body=>
  rintro l pre x a' W hlo hlr hI ⟨b7,h7,h8,ha'⟩ hpl;subst ha';have hWs:=hI.chg.size;obtain⟨v,hv1,hv2⟩:=hI.blk;have k8:∀ i,W.cell? ⟨b7,i,none⟩=(#[.int .i64 x.1.1,.int .i64 x.1.2.1,.int .i64 x.1.2.2,.int .i64 x.2]:Array Value)[i]?:=(Za h8).1;have k0:=k8 0;have k1:=k8 1;have k2:=k8 2;have k3:=k8 3;have ko0:W.cell? ⟨ob,0,none⟩=some v:=(Za hv1).1 0;obtain⟨wA,hwA⟩:∃ wA,wA=W.alloc (.cells #[.int .i64 x.1.1,.int .i64 x.1.2.1,.int .i64 x.1.2.2,.int .i64 x.2] 81):=⟨_,rfl⟩
  have hgA:W.grownBy wA none:=by rw[hwA];exact Lc _ _ none
  have hbA:wA.heap[W.heap.size]?=some (.cells #[.int .i64 x.1.1,.int .i64 x.1.2.1,.int .i64 x.1.2.2,.int .i64 x.2] 81 (0,0)):=by rw[hwA];exact La _ _
  have hoA:wA.ownsRow wc.heap.size 81 4 v pre.length (pre.flatMap clC):=(Chg.grown (Q:=fun _=>False) hgA (fun r e=>by cases e)).owns hv2 (fun _ _ e=>e);have hsA:=hgA.size;have hobl:=Ze hv1;have Hkp:=hid (show ∀ W',wA.grownBy W' v.ownBlock->W'.heap[ob]?=some (.cells #[v] 100 (0,0)) from fun W' hg=>(hg.block ob (by omega) (fun e=>by have:=(hv2.lt ob e.symm).1;omega)).trans ((hgA.block ob hobl (by simp)).trans hv1));have Hv2:=hid hv2;have HI:=hid hI;have HgA:=hid hgA;have HA:=hid (And.intro hbA hoA);have Hln:=hid (show pre.length<1000000000000 by omega);clear k8 h8 hI hv1 hv2 hgA hbA hoA hpl;gi_wp2_with (first|(gi_at_builtin;go_must (rw[<-hwA];refine Yah rfl (.tmp 8) (.tmp 10) 100 rfl wc.heap.size 81 _ 4 32 Tryz.underlying100 Yer rfl (by decide) v _ _ rfl HA.out.2 W.heap.size (clC x) rfl (by simp[clC,Value.oneCell']) rfl _ _ HA.out.1 rfl (by have:=Hln.out;unfold maxLen;omega) (by have:=Hln.out;omega) (by omega) ?_;intro g c' w10 h1 h2 h3;have hb10:=Hkp.out w10 h2;obtain⟨kx,fx⟩:=Za hb10;have kx0:=kx 0;have fx0:=fx 0;clear kx fx;have H1:=hid h1;have H2:=hid h2;have H3:=hid h3;have Hb10:=hid hb10;clear h1 h2 h3 hb10))|gi_in);have h1:=H1.out;have h2:=H2.out;have hb10:=Hb10.out;have hs10:=h2.size;have hov:∀ n,v.ownBlock=some n->wc.heap.size<=n:=fun n e=>(Hv2.out.lt n e).1
  have hc1:Chg (fun n=>n=ob\/v.ownBlock=some n) W (w10.setCell ⟨ob,0,none⟩ (.slice (some ⟨g,0,none⟩) (pre.length+1) c')):=
   ((Chg.grown (Q:=fun n=>n=ob\/v.ownBlock=some n) HgA.out (fun r e=>by cases e)).trans (Chg.grown (Q:=fun n=>n=ob\/v.ownBlock=some n) h2 (fun r e=>.inr e)) (fun _ _ e=>e)).trans (Chg.set (Q:=fun n=>n=ob\/v.ownBlock=some n) w10 (p:=⟨ob,0,none⟩) (.inl rfl) _) (fun _ _ e=>e)
  have ho10:=(Chg.set (Q:=fun n=>n=ob) w10 (p:=⟨ob,0,none⟩) rfl (.slice (some ⟨g,0,none⟩) (pre.length+1) c')).owns h1 (fun n e=>by have:=(h1.lt n e).1;show ¬ n=ob;omega);refine⟨?_,(KeepsWalks.of_grownBy HgA.out (fun r _ e=>by cases e)).trans ((KeepsWalks.of_grownBy h2 (fun j o hj ho=>by obtain⟨cs,t,f,hk⟩:=Zzr HA.out.2 hj;rw[hk] at ho;cases ho;rfl)).trans (KeepsWalks.setCell _ _ _)),?_⟩
  ·exact ((Vd HgA.out (fun r e=>by cases e)).trans ((Vd h2 (fun r e=>Zzr HA.out.2 e)).trans (KeepsOthers.setCell w10 ⟨ob,0,none⟩ _))).from _
  ·refine⟨⟨_,Zs hb10 0 _,by simpa using ho10⟩,HI.out.chg.trans hc1 (fun n hn e=>?_)⟩
   rcases e with e|e
   ·exact e
   ·have:=hov n e;omega
 case done=>
  rintro D xs W hD hS hI hK;obtain⟨v,hv1,hv2⟩:=hI.blk;have hWs:=hI.chg.size;have hcW:Chg (fun n=>n=ob) w W:=(Chg.grown (Q:=fun n=>n=ob) hgc (fun r e=>by cases e)).trans hI.chg (fun _ _ e=>e);obtain⟨ko,-⟩:=Za hv1;have ko0:W.cell? ⟨ob,0,none⟩=some v:=ko 0;have HcW:=hid hcW;have HI:=hid hI;have Hv2:=hid hv2;clear hI hcW hv1 hv2 ko;go_wp2_with fail;refine⟨by simp,.inl ⟨_,_,rfl,run_takeDeferred hK,?_⟩⟩;have hcD:Chg (fun n=>n=D) W (W.putObj D (.deferred none)):=Chg.turned (Q:=fun n=>n=D) (Turned.putObj _ D _) rfl;refine⟨v,by simp[results,Tryz.f243,go_sem],xs,v,rfl,hS,?_,?_⟩
  ·refine Zzu (hcD.owns Hv2.out (fun g e=>?_)) (by omega);show ¬ g=D;rintro rfl;obtain⟨cs,t,fr,hk⟩:=Zzr Hv2.out e;rw[hk] at hK
   cases hK
  ·exact Chg.all (Chg.trans (Q:=fun n=>n=ob\/n=D) (HcW.out.mono (fun n _ e=>.inl e)) hcD (fun n _ e=>.inr e)) (fun n hn e=>by have:=Hob.out;omega)
 case stop=>
  rintro D c pre W hD hS hX hK;exact hX.elim
end
section
open Go.Shelf
def Tryz.sortEnt_ren:Go.Shelf.Ren:=⟨fun|6=>197|15=>127|14=>244|28=>192|29=>193|20=>274|21=>275|22=>276|23=>277|24=>278|25=>279|26=>280|27=>281|46=>290|47=>238|48=>239|49=>291|50=>292|57=>295|n=>n,fun|22=>100|24=>81|25=>98|3=>3|39=>210|0=>0|53=>264|55=>266|4=>4|46=>258|45=>257|50=>69|5=>5|9=>9|66=>295|70=>299|76=>323|77=>324|n=>n,fun|n=>n⟩
theorem Tryz.sortEnt:Go.Proofs.SlLaysF0.n6 Tryz.prog Tryz.sortEnt_ren:={
 mixed:=by kernel_rfl
 f6:=⟨Tryz.f197.name,by decide,Tryz.func197.trans (congrArg some (by kernel_rfl))⟩
 f14:=⟨Tryz.f244.name,by decide,Tryz.func244.trans (congrArg some (by kernel_rfl))⟩
 f15:=Tryz.func127.trans (congrArg some (by kernel_rfl))
 f20:=⟨Tryz.f274.name,by decide,Tryz.func274.trans (congrArg some (by kernel_rfl))⟩
 f21:=⟨Tryz.f275.name,by decide,Tryz.func275.trans (congrArg some (by kernel_rfl))⟩
 f22:=⟨Tryz.f276.name,by decide,Tryz.func276.trans (congrArg some (by kernel_rfl))⟩
 f23:=⟨Tryz.f277.name,by decide,Tryz.func277.trans (congrArg some (by kernel_rfl))⟩
 f24:=⟨Tryz.f278.name,by decide,Tryz.func278.trans (congrArg some (by kernel_rfl))⟩
 f25:=⟨Tryz.f279.name,by decide,Tryz.func279.trans (congrArg some (by kernel_rfl))⟩
 f26:=⟨Tryz.f280.name,by decide,Tryz.func280.trans (congrArg some (by kernel_rfl))⟩
 f27:=⟨Tryz.f281.name,by decide,Tryz.func281.trans (congrArg some (by kernel_rfl))⟩
 f28:=Tryz.func192.trans (congrArg some (by kernel_rfl))
 f29:=Tryz.func193.trans (congrArg some (by kernel_rfl))
 f46:=⟨Tryz.f290.name,by decide,Tryz.func290.trans (congrArg some (by kernel_rfl))⟩
 f47:=Tryz.func238.trans (congrArg some (by kernel_rfl))
 f48:=Tryz.func239.trans (congrArg some (by kernel_rfl))
 f49:=⟨Tryz.f291.name,by decide,Tryz.func291.trans (congrArg some (by kernel_rfl))⟩
 f50:=⟨Tryz.f292.name,by decide,Tryz.func292.trans (congrArg some (by kernel_rfl))⟩
 f57:=⟨Tryz.f295.name,by decide,Tryz.func295.trans (congrArg some (by kernel_rfl))⟩
 t0:=Tryz.underlying0
 a0:=Tryz.isAgg0
 z0:=Tryz.sizeOf0
 v0:=Tryz.zeroValue0
 t3:=Tryz.underlying3
 a3:=Tryz.isAgg3
 z3:=Tryz.sizeOf3
 v3:=Tryz.zeroValue3
 t4:=Tryz.underlying4
 a4:=Tryz.isAgg4
 z4:=Tryz.sizeOf4
 v4:=Tryz.zeroValue4
 t5:=Tryz.underlying5
 a5:=Tryz.isAgg5
 z5:=Tryz.sizeOf5
 v5:=Tryz.zeroValue5
 t9:=Tryz.underlying9
 a9:=Tryz.isAgg9
 z9:=Tryz.sizeOf9
 v9:=Tryz.zeroValue9
 t22:=Tryz.underlying100
 a22:=Tryz.isAgg100
 z22:=Tryz.sizeOf100
 v22:=Tryz.zeroValue100
 t25:=Tryz.underlying98
 a25:=Tryz.isAgg98
 z25:=Tryz.sizeOf98
 v25:=Tryz.zeroValue98
 t39:=Tryz.underlying210
 a39:=Tryz.isAgg210
 z39:=Tryz.sizeOf210
 v39:=Tryz.zeroValue210
 t45:=Tryz.underlying257
 a45:=Tryz.isAgg257
 z45:=Tryz.sizeOf257
 v45:=Tryz.zeroValue257
 t46:=Tryz.underlying258
 a46:=Tryz.isAgg258
 z46:=Tryz.sizeOf258
 v46:=Tryz.zeroValue258
 t50:=Tryz.underlying69
 a50:=Tryz.isAgg69
 z50:=Tryz.sizeOf69
 v50:=Tryz.zeroValue69
 t53:=Tryz.underlying264
 a53:=Tryz.isAgg264
 z53:=Tryz.sizeOf264
 v53:=Tryz.zeroValue264
 t55:=Tryz.underlying266
 a55:=Tryz.isAgg266
 z55:=Tryz.sizeOf266
 v55:=Tryz.zeroValue266
 t66:=Tryz.underlying295
 a66:=Tryz.isAgg295
 z66:=Tryz.sizeOf295
 v66:=Tryz.zeroValue295
 t70:=Tryz.underlying299
 a70:=Tryz.isAgg299
 z70:=Tryz.sizeOf299
 v70:=Tryz.zeroValue299
 t76:=Tryz.underlying323
 a76:=Tryz.isAgg323
 z76:=Tryz.sizeOf323
 v76:=Tryz.zeroValue323
 t77:=Tryz.underlying324
 a77:=Tryz.isAgg324
 z77:=Tryz.sizeOf324
 v77:=Tryz.zeroValue324 }
end
section
open Go.RowKit Go.Shelf Go.Sort
def Zzc (x:CK):List Int:=[x.1.1,x.1.2.1,x.1.2.2,x.2]
theorem Ydf {x y:CK} (h:Zzc x=Zzc y):x=y:=by
 obtain⟨⟨a,b,c⟩,d⟩:=x;obtain⟨⟨a',b',c'⟩,d'⟩:=y;simp only[Zzc,List.cons.injEq] at h;obtain⟨h1,h2,h3,h4,-⟩:=h;simp only[Prod.mk.injEq];omega
theorem cmpC_at (x y:CK) (W:World):Calls Tryz.prog 49 #[.agg (clC x).toArray,.agg (clC y).toArray] W fun e w'=>e=.returned (.int .i64 (Zzb (Zzc x) (Zzc y)))/\∃ n os,w'=grow (W.drewN n) os:=Yaq _ _ _ _ _ _ _ _ W
theorem swoC:SWO (ltOf fun x y:CK=>Zzb (Zzc x) (Zzc y)) where
 irrefl x:=by show decide (Zzb _ _<0)=false;rw[Zzt];rfl
 trans x y z h1 h2:=decide_eq_true (Zzn (m:=Zzc y) rfl rfl (of_decide_eq_true h1) (of_decide_eq_true h2))
 ntrans x y z h1 h2:=by
  have h3:¬ Zzb (Zzc x) (Zzc y)<0:=of_decide_eq_false h1;have h4:¬ Zzb (Zzc y) (Zzc z)<0:=of_decide_eq_false h2;refine decide_eq_false fun (h5:Zzb (Zzc x) (Zzc z)<0)=>?_
  have h6:=Zzx (l:=Zzc x) (m:=Zzc y)
  rcases Zzs (Zzc y) (Zzc x) with h|h|h
  ·exact h4 (Zzn (m:=Zzc x) rfl rfl (by omega) h5)
  ·rw[Yao (l:=Zzc y) (m:=Zzc x) rfl h] at h4;exact h4 h5
  ·omega
theorem Ydn {base:Nat} {v:Value} {L:List CK} (hnd:L.Nodup) (hn:L.length<4611686018427387904) (W:World) (h:W.ownsRow base 81 4 v L.length (L.flatMap clC)):
  Calls Tryz.prog 197 #[v,.func (.func 49) #[] #[]] W fun e w'=>e=.returned (.tuple #[])/\∃ L':List CK,L'.Perm L/\L'.Pairwise (fun x y=>Zzb (Zzc x) (Zzc y)<0)/\w'.ownsRow base 81 4 v L'.length (L'.flatMap clC)/\W.grownBy w' v.ownBlock:=by
 have h':=h
 rcases h.2 with ⟨rfl,h0⟩|⟨g,cap,cur,rfl,hbase,hh,h1,h2,h3,h4⟩
 ·have hl:L=[]:=List.eq_nil_of_length_eq_zero h0;subst hl;refine (AnyF.slices_SortFunc_none Tryz.sortEnt none 0 (.func (.func 49) #[] #[]) W).mono ?_;rintro e w' ⟨rfl,rfl⟩;exact⟨rfl,[],List.Perm.refl _,by simp,h',Lb _ _⟩
 ·have eg:∀ args w,(callFunc 49 args).run Tryz.prog w=.ok (.enter 49 args) w:=enters_of Tryz.func49 (by kernel_rfl) rfl;have hk:∀ x,(clC x).length=4:=fun _=>rfl
  have ho:W.ownsRow base 81 4 (.slice (some ⟨g,0,none⟩) L.toArray.size cap) L.toArray.size (L.toArray.toList.flatMap clC):=h';have hc:=AnyQ.slices_SortFunc Tryz.sortEnt 4 Tryz.isAgg81 Tryz.sizeOf81 clC hk (fun x v hv=>by simp[clC] at hv;rcases hv with rfl|rfl|rfl|rfl<;>rfl) (fun x y=>Zzb (Zzc x) (Zzc y)) swoC 49 #[] g 0 cap L.toArray W eg (fun _ _ _ _ x y=>cmpC_at x y _) (Zyk hk ho) (Ze hh) (by simpa using hn);refine hc.mono ?_;rintro e w' ⟨rfl,d',n,os,hp,hs,rfl⟩;have hsz:d'.size=L.length:=hp.1.trans (by simp);have hpl:d'.toList.Perm L:=by
   have:=hp.2.2;rw[<-hsz.trans (by simp:L.length=L.toArray.size),Array.extract_size] at this;rw[hsz.trans (by simp:L.length=L.toArray.size),Array.extract_size] at this;simpa using this
  refine⟨rfl,d'.toList,hpl,?_,?_,Zxu d'⟩
  ·have hd:d'.toList.Nodup:=hpl.nodup_iff.2 hnd;rw[List.nodup_iff_pairwise_ne,List.pairwise_iff_getElem] at hd;rw[List.pairwise_iff_getElem];intro i j hi hj hij;have hne:=hd i j hi hj hij;rw[Array.length_toList] at hi hj;have:=hs i j (Ln _) hij (by simpa [<-hsz] using hj);rw[getElem!_pos d' i hi,getElem!_pos d' j hj] at this;have h5:¬ Zzb (Zzc d'[j]) (Zzc d'[i])<0:=of_decide_eq_false this;simp only[Array.getElem_toList] at hne ⊢;have h6:=Zzx (l:=Zzc d'[i]) (m:=Zzc d'[j])
   rcases Zzs (Zzc d'[i]) (Zzc d'[j]) with h|h|h
   ·omega
   ·exact absurd (Ydf (Yao (l:=Zzc d'[i]) (m:=Zzc d'[j]) rfl h)) hne
   ·omega
  ·have:=Zxz (n:=n) (os:=os) hk (d':=d') (by simpa using hsz) ho;rw[show L.toArray.size=d'.toList.length by simp[hsz]] at this;rw[show L.length=d'.toList.length by simp[hsz]];exact this
theorem Ydk (b:Nat) (m:List (CK×Bool)) (hnd:(m.map (·.1)).Nodup) (hml:m.length<=1000000000000) (w:World) (hb:w.heap[b]?=some (Z7 Zzj Value.bool m)):
  Calls Tryz.prog 96 #[.map (some b),.func (.func 49) #[] #[]] w fun e w'=>∃ (L:List CK) (v:Value),e=.returned v/\L.Perm (m.map (·.1))/\L.Pairwise (fun x y=>Zzb (Zzc x) (Zzc y)<0)/\w'.ownsRow w.heap.size 81 4 v L.length (L.flatMap clC)/\w.grownBy w' none:=by
 have hk:=Yck b w;obtain⟨w1,hw1⟩:∃ w1,w1=w.alloc (.cells #[.map (some b)] 164):=⟨_,rfl⟩
 have hg1:w.grownBy w1 none:=by rw[hw1];exact Lc _ _ _
 have hc1:w1.cell? ⟨w.heap.size,0,none⟩=some (.map (some b)):=by rw[hw1];exact (Za (La _ _)).1 0
 rw[<-hw1] at hk;have ha:=Ydd w.heap.size b m hml w1 hc1 ((hg1.block _ (Ze hb) (by simp)).trans hb);have Hg1:=hid hg1;have Hnd:=hid hnd;have Hml:=hid hml;clear hb hw1 hg1 hc1 hnd hml;obtain⟨u,hu⟩:∃ u,u=w.heap.size:=⟨_,rfl⟩
 rw[<-hu] at hk ha ⊢;have Hu:=hid hu;clear hu;have hsf:Calls Tryz.prog 131 #[.func (.func 198) #[] #[.pointer (some ⟨u,0,none⟩)],.func (.func 49) #[] #[]] w1 fun e w'=>∃ (L:List CK) (v:Value),e=.returned v/\L.Perm (m.map (·.1))/\L.Pairwise (fun x y=>Zzb (Zzc x) (Zzc y)<0)/\w'.ownsRow u 81 4 v L.length (L.flatMap clC)/\w.grownBy w' none:=by
  have hcl:Calls Tryz.prog 196 #[.func (.func 198) #[] #[.pointer (some ⟨u,0,none⟩)]] w1 fun e w'=>∃ (xs:List CK) (A:Option Addr) (c:Nat),e=.returned (.slice A xs.length c)/\xs.Perm (m.map (·.1))/\w'.ownsRow w1.heap.size 81 4 (.slice A xs.length c) xs.length (xs.flatMap clC)/\w1.grownBy w' none:=by
   clear hk;go_enter Tryz.func196,Tryz.ntmps196;go_wp2_with (go_at_call 243;refine ha.mono ?_;rintro e w2 ⟨xs,v,rfl,hp,ho,hg⟩;obtain⟨A,c,rfl,-,-,-,-⟩:=Zz ho;have HO:=hid (And.intro hp (And.intro ho hg));clear hp ho hg);go_ret;exact⟨xs,A,c,rfl,HO.out⟩
  clear hk ha;go_enter Tryz.func131,Tryz.ntmps131;go_upto_region 2 with (go_at_call 196;refine hcl.mono ?_;rintro e w2 ⟨xs,A,c,rfl,hO⟩;have HO:=hid hO;clear hO hcl)
  have hln:xs.length=m.length:=by have:=HO.out.1.length_eq;simpa using this
  have hst:=Ydn (HO.out.1.nodup_iff.2 Hnd.out) (by have:=Hml.out;omega) w2 HO.out.2.1;clear hln;go_wp2_with (go_at_call 197;refine hst.mono ?_;rintro e w3 ⟨rfl,L',hp',hs',ho',hg'⟩;have HL:=hid (And.intro hp' (And.intro hs' (And.intro ho' hg')));clear hp' hs' ho' hg');go_ret;obtain⟨hp',hs',ho',hg'⟩:=HL.out;have:=Hg1.out.size;have hu:=Hu.out;refine⟨L',_,rfl,hp'.trans HO.out.1,hs',Zzu ho' (by omega),(Zb Hg1.out HO.out.2.2).andThen hg' (fun j hj=>.inl ?_)⟩;have h1:=(HO.out.2.1.lt j hj).1;omega
 clear ha;go_enter Tryz.func96,Tryz.ntmps96;go_wp2_with (first|(go_at_call 132;refine hk.mono ?_;rintro e w2 ⟨rfl,rfl⟩)|(go_at_call 131;refine hsf.mono ?_;rintro e w2 ⟨L,v,rfl,hO⟩;obtain⟨A,c,rfl,-,-,-,-⟩:=Zz hO.2.2.1;have HO:=hid hO;clear hO));go_ret;exact⟨L,_,rfl,HO.out⟩
end

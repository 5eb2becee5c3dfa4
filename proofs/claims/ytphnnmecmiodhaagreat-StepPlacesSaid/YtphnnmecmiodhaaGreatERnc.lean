/- The facts of a machine that goes. No condition. -/
import Derived.Test.YtphnnmecmiodhaaGreatEKh
import Derived.Test.YtphnnmecmiodhaaGreatERnb
import Derived.Test.YtphnnmecmiodhaaGreatELsf
set_option maxHeartbeats 4000000
set_option maxRecDepth 100000
set_option linter.all false
namespace Go.Proofs.YtphnnmecmiodhaaGreat
open Lib(hid)
section
variable {p:GProg} {s:GM}
structure PlI (p:GProg) (w0 wS:World) (loS:Nat) (wB:Bs) (ms:Nat) (vp:Value) (W:World) (g:SAd) (s:GM):Prop where
 two:TwoI p w0 wS loS wB ms vp W g s
 nd:KeysNd s
 did:s.did=true->s.stop=0
variable {w0 wS:World} {loS lo ms mS:Nat} {wB:Bs} {vp:Value} {W W':World} {g:SAd}
theorem PlI.grow (h:PlI p w0 wS loS wB ms vp W g s) (hg:W.grownBy W' none):PlI p w0 wS loS wB ms vp W' g s:={ h with two:=h.two.grow hg }
theorem Yep (hN:NOk p) (hS:SOk p) (K:GMOk p s) (hd0:s.did=true->s.stop=0) (c:Bool):((s.move p c).did=true->(s.move p c).stop=0)/\(s.stop=0->(s.move p c).did=true->∃ f y x fq,p[(s.move p c).ent.1.1]?=some f/\f.bk9[(s.move p c).ent.1.2.1]?=some y/\y.code[(s.move p c).ent.1.2.2]?=some x/\(x.op=10\/x.op=11)/\p[(s.move p c).ent.2]?=some fq/\x.args.length=fq.params.length/\atP (s.move p c)=((s.move p c).ent.2,0,0)):=by
 by_cases h0:s.stop=0
 ·obtain⟨l,a,ha⟩:=Zfc (s:=s) fun e=>by have:=K.done.1 e;omega
  obtain⟨f,y,hf,hy,hx⟩:=K.at_ins ha;have hm:=(K.move hN hS h0 c ha).2;unfold MvOk at hm
  rcases hm with ⟨hd,hop,he1,he2,-,hst,hag,htp⟩|⟨hd,-⟩|⟨hd,-⟩
  ·refine⟨fun _=>hst,fun _ _=>⟨f,y,_,p[(s.move p c).ent.2],by rw[he1];exact hf,by rw[he1];exact hy,by rw[he1];exact hx,hop,Ld he2,?_,?_⟩⟩
   ·rw[hag];unfold Zmp;rw[List.getElem?_eq_getElem he2];simp
   ·unfold atP;rw[if_pos hst,htp]
  ·rw[hd];exact⟨fun e=>(by cases e),fun _ e=>(by cases e)⟩
  ·rw[hd];exact⟨fun e=>(by cases e),fun _ e=>(by cases e)⟩
 ·have e:s.move p c=s:=by unfold GM.move;rw[if_neg h0]
  rw[e];exact⟨hd0,fun h=>absurd h h0⟩
end
section
def Zzk (p:GProg) (s:GM) (cs:List Int):Option (GM×List Int):=
 if s.stop=0 then
  if (Yp p s.top.pt).op=12 then
   match cs with
   |[]=>none
   |c::cs'=>some (s.move p (decide (c % 2=1)),cs')
  else some (s.move p false,cs)
 else none
def Zzl (p:GProg):Nat->GM->List Int->List GM
 |0,s,_=>[s]
 |n+1,s,cs=>match Zzk p s cs with
  |none=>[s]
  |some q=>s::Zzl p n q.1 q.2
def Zzf (p:GProg) (s:GM):List FK:=if s.stop=0 then (s.top.vars.filterMap (Zwr p s.heap)).map fun x=>(s.top.pt,x) else []
def Yab (s:GM):List CK:=if s.did then [s.ent] else []
structure RunOut (p:GProg) (cs:List Int) (FL:List FK) (CL:List CK) (st mv:Nat):Prop where
 ford:FL.Pairwise fun x y=>Zzb (Zza x) (Zza y)<0
 fmem:∀ x,x∈FL↔∃ s∈Zzl p 16384 (gm0 p) cs,x∈Zzf p s
 cord:CL.Pairwise fun x y=>Zzb (Zzc x) (Zzc y)<0
 cmem:∀ x,x∈CL↔∃ s∈Zzl p 16384 (gm0 p) cs,x∈Yab s
 moves:mv+1=(Zzl p 16384 (gm0 p) cs).length
 stop:∃ s,(Zzl p 16384 (gm0 p) cs).getLast?=some s/\st=if s.stop=0 then 7 else s.stop
theorem Ycm (x:FK):¬ Zzb (Zza x) (Zza x)<0:=by rw[Zzt];omega
theorem Yej (x:CK):¬ Zzb (Zzc x) (Zzc x)<0:=by rw[Zzt];omega
theorem Ydh (x y z:FK) (h:Zzb (Zza x) (Zza y)<0) (h':Zzb (Zza y) (Zza z)<0):Zzb (Zza x) (Zza z)<0:=Zzn (m:=Zza y) rfl rfl h h'
theorem Yen (x y z:CK) (h:Zzb (Zzc x) (Zzc y)<0) (h':Zzb (Zzc y) (Zzc z)<0):Zzb (Zzc x) (Zzc z)<0:=Zzn (m:=Zzc y) rfl rfl h h'
structure StOk (p:GProg) (s:GM):Prop where
 ok:GMOk p s
 nd:KeysNd s
 did:s.did=true->s.stop=0/\∃ f y x fq,p[s.ent.1.1]?=some f/\f.bk9[s.ent.1.2.1]?=some y/\y.code[s.ent.1.2.2]?=some x/\(x.op=10\/x.op=11)/\p[s.ent.2]?=some fq/\x.args.length=fq.params.length/\atP s=(s.ent.2,0,0)
variable {p:GProg} {s:GM}
theorem StOk.start (hN:NOk p):StOk p (gm0 p):=⟨Zoi hN,Ygv p,fun e=>by cases e⟩
theorem StOk.move (hN:NOk p) (hS:SOk p) (h:StOk p s) (h0:s.stop=0) (c:Bool):StOk p (s.move p c):=by
 obtain⟨l,a,ha⟩:=Zfc (s:=s) fun e=>by have:=h.ok.done.1 e;omega
 obtain⟨d1,d2⟩:=Yep hN hS h.ok (fun e=>(h.did e).1) c;exact⟨(h.ok.move hN hS h0 c ha).1,h.nd.move c,fun e=>⟨d1 e,d2 h0 e⟩⟩
theorem Ydr (hN:NOk p) (hS:SOk p) (h:StOk p s) {cs:List Int} {q:GM×List Int} (e:Zzk p s cs=some q):StOk p q.1:=by
 unfold Zzk at e
 split at e
 ·rename_i h0
  split at e
  ·split at e
   ·cases e
   ·cases e;exact h.move hN hS h0 _
  ·cases e;exact h.move hN hS h0 _
 ·cases e
theorem Ybg (p:GProg) (n:Nat) (s:GM) (cs:List Int):Zzl p (n+1) s cs=match Zzk p s cs with|none=>[s]|some q=>s::Zzl p n q.1 q.2:=rfl
theorem Yed (p:GProg):∀ (n:Nat) (s:GM) (cs:List Int),(Zzl p n s cs).length<=n+1
 |0,s,cs=>by simp[Zzl]
 |n+1,s,cs=>by
  unfold Zzl
  cases Zzk p s cs with
  |none=>simp
  |some q=>simpa using Yed p n q.1 q.2
theorem Ydy (p:GProg) (n:Nat) (s:GM) (cs:List Int):∃ l,Zzl p n s cs=s::l:=by
 cases n with
 |zero=>exact⟨[],rfl⟩
 |succ n=>
  unfold Zzl
  cases Zzk p s cs with
  |none=>exact⟨[],rfl⟩
  |some q=>exact⟨_,rfl⟩
theorem Yel {s:GM} {cs:List Int} {q:GM×List Int} (e:Zzk p s cs=some q) (more:List Int):Zzk p s (cs++more)=some (q.1,q.2++more):=by
 unfold Zzk at e ⊢
 split at e
 ·rename_i h0
  rw[if_pos h0]
  split at e
  ·rename_i h1
   rw[if_pos h1]
   split at e
   ·cases e
   ·cases e;rfl
  ·rename_i h1
   rw[if_neg h1]
   cases e;rfl
 ·cases e
theorem Yea (p:GProg) (more:List Int):∀ (n:Nat) (s:GM) (cs:List Int),Zzl p n s cs<+:Zzl p n s (cs++more)/\(((∃ t,(Zzl p n s cs).getLast?=some t/\t.stop≠0)\/(Zzl p n s cs).length=n+1)->Zzl p n s (cs++more)=Zzl p n s cs)
 |0,s,cs=>⟨List.prefix_rfl,fun _=>rfl⟩
 |n+1,s,cs=>by
  cases e:Zzk p s cs with
  |none=>
   have e1:Zzl p (n+1) s cs=[s]:=by rw[Ybg,e]
   rw[e1];constructor
   ·obtain⟨l,hl⟩:=Ydy p (n+1) s (cs++more);rw[hl];exact⟨l,rfl⟩
   ·rintro (⟨t,ht,h0⟩|h)
    ·simp only[List.getLast?_singleton,Option.some.injEq] at ht;subst ht;unfold Zzl Zzk;rw[if_neg h0]
    ·simp at h
  |some q=>
   have e1:Zzl p (n+1) s cs=s::Zzl p n q.1 q.2:=by rw[Ybg,e]
   have e2:Zzl p (n+1) s (cs++more)=s::Zzl p n q.1 (q.2++more):=by
    show (match Zzk p s (cs++more) with|none=>[s]|some q=>s::Zzl p n q.1 q.2)=_;rw[Yel e]
   obtain⟨h1,h2⟩:=Yea p more n q.1 q.2;rw[e1,e2];refine⟨(List.prefix_cons_inj s).2 h1,fun h=>congrArg (s::·) (h2 ?_)⟩
   rcases h with ⟨t,ht,h0⟩|h
   ·refine .inl ⟨t,?_,h0⟩;obtain⟨l,hl⟩:=Ydy p n q.1 q.2;rw[hl] at ht ⊢
    rwa [List.getLast?_cons_cons] at ht
   ·exact .inr (by simpa using h)
end
section
open Go.RowKit Go.Shelf
def Yat {κ:Type} [BEq κ] (m:List (κ×Bool)) (L:List κ):List (κ×Bool):=L.foldl (fun m x=>Yz m x true) m
theorem Ybd {κ:Type} [BEq κ] [LawfulBEq κ] (m:List (κ×Bool)) (x:κ):(∀ y,y∈(Yz m x true).map (·.1)↔y∈m.map (·.1)\/y=x)/\(Yz m x true).length<=m.length+1:=by
 have h:=Zxk x true m;constructor
 ·intro y;rw[h]
  split
  ·rename_i hx
   exact⟨.inl,fun e=>e.elim id (fun e=>e▸hx)⟩
  ·rw[List.mem_append,List.mem_singleton]
 ·have:=congrArg List.length h;rw[List.length_map] at this;rw[this]
  split<;>simp
theorem Ycx {κ:Type} [BEq κ] [LawfulBEq κ]:∀ (L:List κ) (m:List (κ×Bool)),(∀ y,y∈(Yat m L).map (·.1)↔y∈m.map (·.1)\/y∈L)/\((m.map (·.1)).Nodup->((Yat m L).map (·.1)).Nodup)/\(Yat m L).length<=m.length+L.length
 |[],m=>⟨fun y=>by simp[Yat],fun h=>h,Lf _⟩
 |x::L,m=>by
  obtain⟨h1,h2,h3⟩:=Ycx L (Yz m x true);obtain⟨g1,g2⟩:=Ybd m x;refine⟨fun y=>?_,fun h=>h2 (Zyg x true h),?_⟩
  ·show y∈(Yat (Yz m x true) L).map (·.1)↔_;rw[h1,g1,List.mem_cons,or_assoc]
  ·show (Yat (Yz m x true) L).length<=_;rw[List.length_cons];omega
theorem Ydj {κ:Type} [BEq κ] (m:List (κ×Bool)) (L:List κ) (x:κ):Yat m (L++[x])=Yz (Yat m L) x true:=by simp[Yat]
variable {wB:Bs} {lo ms:Nat} {vp:Value} {p:GProg} {W W':World} {g:SAd} {s:GM}
theorem Ybz (hN:NOk p) (K:GMOk p s) (N:KeysNd s) {l:List GAct} {a:GAct} (ha:s.acts=l++[a]) {L:List (Int×Nat)} (hL:Yau p s.heap a.vars L):L.length<=5000:=by
 have h1:=(Zyi hN (K.acts a (by rw[ha];simp)) (N a (by rw[ha];simp))).2;have h2:=hL.1.length_eq;have h3:=List.length_filterMap_le (Zwr p s.heap) a.vars;omega
theorem Ycg (E:StE wB lo ms vp p) (h:Ma wB ms vp W g s) (K:GMOk p s) (N:KeysNd s) {mb fb b:Nat} {m:List (FK×Bool)} (h1:W.cell? ⟨mb,0,none⟩=some (.pointer (some ⟨g.m,0,none⟩))) (h2:W.cell? ⟨b,0,none⟩=some (.map (some fb))) (h3:W.heap[fb]?=some (Z7 Zze Value.bool m)) (hbf:b≠fb):
  Calls Tryz.prog 94 #[.pointer (some ⟨mb,0,none⟩),.pointer (some ⟨b,0,none⟩)] W fun e w'=>e=.returned (.tuple #[])/\Chg (fun n=>n=fb) W w'/\∃ m',w'.heap[fb]?=some (Z7 Zze Value.bool m')/\(∀ x,x∈m'.map (·.1)↔x∈m.map (·.1)\/x∈Zzf p s)/\((m.map (·.1)).Nodup->(m'.map (·.1)).Nodup)/\m'.length<=m.length+5000:=by
 by_cases h0:s.stop=0
 ·obtain⟨l,a,ha⟩:=Zfc (s:=s) fun e=>by have:=K.done.1 e;omega
  have hf:=Zyd E h K N ha h0;have HL:=hid (fun (L:List (Int×Nat)) (hL:Yau p s.heap a.vars L)=>Ybz E.ok K N ha hL);have HF:=hid (show Zzf p s=(a.vars.filterMap (Zwr p s.heap)).map fun x=>(a.pt,x) by unfold Zzf;rw[if_pos h0,X1 ha]);have H2:=hid h2;have H3:=hid h3;have Hbf:=hid hbf;clear h K N E h0 ha h2 h3 hbf;obtain⟨⟨pf,pb,pi⟩,hpt⟩:∃ q,q=a.pt:=⟨_,rfl⟩
  rw[<-hpt] at hf HF;clear hpt;go_enter Tryz.func94,Tryz.ntmps94;go_wp2_with (go_at_call 41;refine hf.mono ?_;rintro e w1 ⟨L,v,rfl,hL,ho,hg⟩;obtain⟨A,c,rfl,hm0,hm,-,-⟩:=Zz ho;have hl63:L.length<=9223372036854775807:=(by unfold maxLen at hm;omega);clear hm0;have HO:=hid (And.intro hL (And.intro ho hg));clear hL ho hg hm);clear hf h1;go_loopw [7] (fun s7 wr=>∃ i:Nat,i<=L.length/\s7=.int .i64 i/\Hid (Chg (fun n=>n=fb) w1 wr/\wr.heap[fb]?=some (Z7 Zze Value.bool (Yat m ((L.take i).map fun x=>((pf,pb,pi),x)))))) (fun s7 _=>L.length-(intOf s7).toNat)
  case atStart=>exact⟨0,Ln _,rfl,hid ⟨Chg.refl _ _,(HO.out.2.2.block _ (Ze H3.out) (by simp)).trans H3.out⟩⟩
  case round=>
   obtain⟨i,hi,rfl,hh⟩:=hrel
   by_cases hil:i<L.length
   ·obtain⟨x,hx⟩:∃ x,L[i]?=some x:=⟨_,Ld hil⟩
    have hrow:=hh.out.1.owns HO.out.2.1 (fun n e q=>by have:=(HO.out.2.1.lt n e).1;have:=Ze H3.out;omega);obtain⟨G,kc,eG,fG⟩:=Zxd hrow hx;injection eG with eG _ _
    subst eG;obtain⟨c0,c1,c2,c3,c4⟩:=fG wr (Lb _ _);have Hx:=hid hx;clear fG hrow hx;go_upto_region 3 with (fail)
    obtain⟨w6,hw6⟩:∃ w6,w6=wr.alloc (.cells #[.int .i64 pf,.int .i64 pb,.int .i64 pi,.int .i64 x.1,.int .i64 x.2] 93):=⟨_,rfl⟩
    rw[<-hw6];have hg6:wr.grownBy w6 none:=by rw[hw6];exact Lc _ _ _
    have hb6:w6.heap[wr.heap.size]?=some (.cells #[.int .i64 pf,.int .i64 pb,.int .i64 pi,.int .i64 x.1,.int .i64 x.2] 93 (0,0)):=by rw[hw6];exact La _ _
    have hm6:w6.heap[fb]?=some (Z7 Zze Value.bool (Yat m ((L.take i).map fun x=>((pf,pb,pi),x)))):=(hg6.block _ (Ze hh.out.2) (by simp)).trans hh.out.2;have hb2:w6.cell? ⟨b,0,none⟩=some (.map (some fb)):=by
     have hlb:=World.block_lt_of_cell? W ⟨b,0,none⟩ H2.out;have hg:=HO.out.2.2;exact (Lj (hg6.block b (by have:=hg.size;have:=hh.out.1.size;simp at hlb;omega) (by simp))).trans ((Lj (hh.out.1.block b (by have:=hg.size;simp at hlb;omega) Hbf.out)).trans ((Lj (hg.block b (by simpa using hlb) (by simp))).trans H2.out))
    have hrun:=Zed (P:=Tryz.prog) (ev:=Value.bool) keyFK Tryz.underlying163 hm6 ((pf,pb,pi),x) true;simp only[Zze] at hrun;have k0:=(Za hb6).1 0;have k1:=(Za hb6).1 1;have k2:=(Za hb6).1 2;have k3:=(Za hb6).1 3;have k4:=(Za hb6).1 4;have Hm6:=hid hm6;have Hg6:=hid hg6;clear hw6 hg6 hb6 hm6 c0 c1 c2 c3 c4;go_wp2_with fail;go_roundw
    case rel=>
     refine⟨i+1,by omega,by go_num,hid ⟨(hh.out.1.trans (Chg.grown (Q:=fun n=>n=fb) Hg6.out (fun r e=>by cases e)) (fun _ _ e=>e)).trans (Chg.turned (Q:=fun n=>n=fb) (Turned.putObj _ _ _) rfl) (fun _ _ e=>e),?_⟩⟩;rw[List.take_add_one,Hx.out,Option.toList_some,List.map_append,List.map_singleton,Ydj];have:=Xt Hm6.out (Z7 Zze Value.bool (Yz (Yat m ((L.take i).map fun x=>(((pf,pb,pi):GPt),x))) ((pf,pb,pi),x) true));simpa only[List.map_take] using this
    case measure=>simp[intOf];omega
   ·obtain rfl:i=L.length:=by omega
    go_wp2;go_end0;have hfin:=hh.out.2;rw[List.take_length] at hfin;obtain⟨q1,q2,q3⟩:=Ycx (L.map fun x=>(((pf,pb,pi):GPt),x)) m;refine⟨rfl,(Chg.grown (Q:=fun n=>n=fb) HO.out.2.2 (fun r e=>by cases e)).trans hh.out.1 (fun _ _ e=>e),_,hfin,fun y=>?_,q2,by have:=HL.out L HO.out.1;rw[List.length_map] at q3;omega⟩;rw[q1,HF.out,((HO.out.1.1).map _).mem_iff]
 ·have hf:=Zyl h h0;have HF:=hid (show Zzf p s=[] by unfold Zzf;rw[if_neg h0]);have H3:=hid h3;clear h K N E h0 h2 h3 hbf;go_enter Tryz.func94,Tryz.ntmps94;go_wp2_with (go_at_call 41;refine hf.mono ?_;rintro e w1 ⟨rfl,hg⟩;have HO:=hid hg;clear hg);clear hf h1;go_loopw [7] (fun s7 wr=>s7=.int .i64 0/\Hid (wr=w1)) (fun _ _=>0)
  case atStart=>exact⟨rfl,hid rfl⟩
  case round=>
   obtain⟨rfl,hh⟩:=hrel;go_wp2;go_end0;rw[hh.out];exact⟨rfl,Chg.grown HO.out (fun r e=>by cases e),m,(HO.out.block _ (Ze H3.out) (by simp)).trans H3.out,fun x=>by rw[HF.out];simp,fun h=>h,by omega⟩
end
section
open Go.RowKit Go.Shelf
structure RnK (p:GProg) (cs:List Int) (k:Nat) (s:GM) (cs':List Int) (mf:List (FK×Bool)) (mc:List (CK×Bool)):Prop where
 tr:∃ pre,Zzl p 16384 (gm0 p) cs=pre++Zzl p (16384-k) s cs'/\pre.length=k/\(∀ x,x∈mf.map (·.1)↔∃ t∈pre,x∈Zzf p t)/\(∀ x,x∈mc.map (·.1)↔∃ t∈pre++[s],x∈Yab t)
 fnd:(mf.map (·.1)).Nodup
 cnd:(mc.map (·.1)).Nodup
 flen:mf.length<=5000*k
 clen:mc.length<=k
 le:k<=16384
variable {p:GProg} {cs cs' cs2:List Int} {k:Nat} {s s':GM} {mf mf':List (FK×Bool)} {mc mc':List (CK×Bool)}
theorem RnK.start (p:GProg) (cs:List Int):RnK p cs 0 (gm0 p) cs [] [] where
 tr:=⟨[],rfl,rfl,fun x=>by simp,fun x=>by simp[Yab,gm0]⟩
 fnd:=by simp
 cnd:=by simp
 flen:=by simp
 clen:=by simp
 le:=by omega
theorem RnK.step (h:RnK p cs k s cs' mf mc) (hk:k<16384) (e:Zzk p s cs'=some (s',cs2)) (f1:∀ x,x∈mf'.map (·.1)↔x∈mf.map (·.1)\/x∈Zzf p s) (f2:(mf.map (·.1)).Nodup->(mf'.map (·.1)).Nodup) (f3:mf'.length<=mf.length+5000)
  (c1:∀ x,x∈mc'.map (·.1)↔x∈mc.map (·.1)\/x∈Yab s') (c2:(mc.map (·.1)).Nodup->(mc'.map (·.1)).Nodup) (c3:mc'.length<=mc.length+1):RnK p cs (k+1) s' cs2 mf' mc' where
 tr:=by
  obtain⟨pre,h1,h2,h3,h4⟩:=h.tr;refine⟨pre++[s],?_,by simp[h2],fun x=>?_,fun x=>?_⟩
  ·rw[h1,show 16384-k=(16384-(k+1))+1 by omega,Ybg,e,List.append_assoc];rfl
  ·rw[f1,h3];simp[or_and_right,exists_or]
  ·rw[c1,h4];simp[or_and_right,exists_or,or_assoc]
 fnd:=f2 h.fnd
 cnd:=c2 h.cnd
 flen:=by have:=h.flen;omega
 clen:=by have:=h.clen;omega
 le:=hk
structure RnX (p:GProg) (cs:List Int) (k:Nat) (s:GM) (cs':List Int) (mf:List (FK×Bool)) (mc:List (CK×Bool)):Prop where
 tr:∃ pre,Zzl p 16384 (gm0 p) cs=pre++Zzl p (16384-k) s cs'/\pre.length=k/\(∀ x,x∈mf.map (·.1)\/x∈Zzf p s↔(∃ t∈pre,x∈Zzf p t)\/x∈Zzf p s)/\(∀ x,x∈mc.map (·.1)↔∃ t∈pre++[s],x∈Yab t)
 fnd:(mf.map (·.1)).Nodup
 cnd:(mc.map (·.1)).Nodup
 flen:mf.length<=90000000
 clen:mc.length<=16384
theorem RnK.mid (h:RnK p cs k s cs' mf mc):RnX p cs k s cs' mf mc:=by
 obtain⟨pre,h1,h2,h3,h4⟩:=h.tr;have:=h.le;exact⟨⟨pre,h1,h2,fun x=>by rw[h3],h4⟩,h.fnd,h.cnd,by have:=h.flen;omega,by have:=h.clen;omega⟩
theorem RnK.look (h:RnK p cs k s cs' mf mc) (f1:∀ x,x∈mf'.map (·.1)↔x∈mf.map (·.1)\/x∈Zzf p s) (f2:(mf.map (·.1)).Nodup->(mf'.map (·.1)).Nodup) (f3:mf'.length<=mf.length+5000):RnX p cs k s cs' mf' mc:=by
 obtain⟨pre,h1,h2,h3,h4⟩:=h.tr;have:=h.le;exact⟨⟨pre,h1,h2,fun x=>by rw[f1,h3,or_assoc,or_self],h4⟩,f2 h.fnd,h.cnd,by have:=h.flen;omega,by have:=h.clen;omega⟩
theorem RnX.fin (h:RnX p cs k s cs' mf mc) (e:k=16384\/Zzk p s cs'=none) (f1:∀ x,x∈mf'.map (·.1)↔x∈mf.map (·.1)\/x∈Zzf p s) {FL:List FK} {CL:List CK} (hF:FL.Perm (mf'.map (·.1))) (hC:CL.Perm (mc.map (·.1)))
  (oF:FL.Pairwise fun x y=>Zzb (Zza x) (Zza y)<0) (oC:CL.Pairwise fun x y=>Zzb (Zzc x) (Zzc y)<0):RunOut p cs FL CL (if s.stop=0 then 7 else s.stop) k:=by
 obtain⟨pre,h1,h2,h3,h4⟩:=h.tr;have ht:Zzl p (16384-k) s cs'=[s]:=by
  rcases e with e|e
  ·rw[e];rfl
  ·cases hn:16384-k with
   |zero=>rfl
   |succ n=>rw[Ybg,e]
 rw[ht] at h1;refine⟨oF,fun x=>?_,oC,fun x=>?_,?_,s,?_,rfl⟩
 ·rw[hF.mem_iff,f1,h3,h1];simp[or_and_right,exists_or]
 ·rw[hC.mem_iff,h4,h1]
 ·rw[h1];simp[h2]
 ·rw[h1];simp
structure RnI (p:GProg) (w0 wS:World) (loS:Nat) (wB:Bs) (ms:Nat) (vq:Value) (mb bb fb eb tb:Nat) (W:World) (g:SAd) (s:GM) (k:Nat) (mf:List (FK×Bool)) (mc:List (CK×Bool)):Prop where
 two:TwoI p w0 wS loS wB ms vq W g s
 st:StOk p s
 off:∀ n,(n=mb\/n=bb\/n=fb\/n=eb\/n=tb)->¬ SQ g n
 up:∀ n,(n=fb\/n=eb\/n=tb)->wS.heap.size<=n
 cmb:W.heap[mb]?=some (.cells #[.pointer (some ⟨g.m,0,none⟩)] 63 (0,0))
 cbb:W.heap[bb]?=some (.cells #[.map (some fb)] 163 (0,0))
 cf:W.heap[fb]?=some (Z7 Zze Value.bool mf)
 ce:W.heap[eb]?=some (Z7 Zzj Value.bool mc)
 ct:W.heap[tb]?=some (.cells #[.slice none 0 0,.slice none 0 0,.int .u8 0,.int .i64 k] 102 (0,0))
 ne:fb≠eb
variable {w0 wS W W':World} {loS ms mb bb fb eb tb lo:Nat} {wB:Bs} {vq:Value} {g g':SAd}
theorem RnI.grow (h:RnI p w0 wS loS wB ms vq mb bb fb eb tb W g s k mf mc) (hg:W.grownBy W' none):RnI p w0 wS loS wB ms vq mb bb fb eb tb W' g s k mf mc:=
 have q:∀ {n o},W.heap[n]?=some o->W'.heap[n]?=some o:=fun hn=>(hg.block _ (Ze hn) (by simp)).trans hn
 ⟨h.two.grow hg,h.st,h.off,h.up,q h.cmb,q h.cbb,q h.cf,q h.ce,q h.ct,h.ne⟩
theorem Zzm {W:World} {a b:Nat} {o o':Obj} (h:W.heap[a]?=some o) (h':W.heap[b]?=some o') (hn:o≠o'):a≠b:=fun e=>by rw[e,h'] at h;cases h;exact hn rfl
theorem Yan {cs cs':Array Value} {t t':TypeId} (h:t≠t'):Obj.cells cs t (0,0)≠Obj.cells cs' t' (0,0):=fun e=>by injection e with _ e2;exact h e2
theorem Zzh {κ β:Type} {ek:κ->Value} {ev:β->Value} {m:List (κ×β)} {cs:Array Value} {t:TypeId}:Obj.cells cs t (0,0)≠Z7 ek ev m:=fun e=>by unfold Z7 at e;cases e
theorem RnI.setF (h:RnI p w0 wS loS wB ms vq mb bb fb eb tb W g s k mf mc) (hc:Chg (fun n=>n=fb) W W') (hf:W'.heap[fb]?=some (Z7 Zze Value.bool mf')):RnI p w0 wS loS wB ms vq mb bb fb eb tb W' g s k mf' mc:=
 ⟨h.two.other hc (fun n e=>by rw[e];exact⟨h.off _ (by simp),h.up _ (by simp)⟩),h.st,h.off,h.up,hc.at_ h.cmb (Zzm h.cmb h.cf Zzh),hc.at_ h.cbb (Zzm h.cbb h.cf Zzh),hf,hc.at_ h.ce (fun e=>h.ne e.symm),hc.at_ h.ct (Zzm h.ct h.cf Zzh),h.ne⟩
theorem RnI.setE (h:RnI p w0 wS loS wB ms vq mb bb fb eb tb W g s k mf mc) (hc:Chg (fun n=>n=eb) W W') (hf:W'.heap[eb]?=some (Z7 Zzj Value.bool mc')):RnI p w0 wS loS wB ms vq mb bb fb eb tb W' g s k mf mc':=
 ⟨h.two.other hc (fun n e=>by rw[e];exact⟨h.off _ (by simp),h.up _ (by simp)⟩),h.st,h.off,h.up,hc.at_ h.cmb (Zzm h.cmb h.ce Zzh),hc.at_ h.cbb (Zzm h.cbb h.ce Zzh),hc.at_ h.cf h.ne,hf,hc.at_ h.ct (Zzm h.ct h.ce Zzh),h.ne⟩
theorem RnI.setT {k':Nat} (h:RnI p w0 wS loS wB ms vq mb bb fb eb tb W g s k mf mc) (hc:Chg (fun n=>n=tb) W W') (hf:W'.heap[tb]?=some (.cells #[.slice none 0 0,.slice none 0 0,.int .u8 0,.int .i64 k'] 102 (0,0))):RnI p w0 wS loS wB ms vq mb bb fb eb tb W' g s k' mf mc:=
 ⟨h.two.other hc (fun n e=>by rw[e];exact⟨h.off _ (by simp),h.up _ (by simp)⟩),h.st,h.off,h.up,hc.at_ h.cmb (Zzm h.cmb h.ct (Yan (by decide))),hc.at_ h.cbb (Zzm h.cbb h.ct (Yan (by decide))),hc.at_ h.cf (fun e=>Zzm h.ct h.cf Zzh e.symm),hc.at_ h.ce (fun e=>Zzm h.ct h.ce Zzh e.symm),hf,h.ne⟩
theorem RnI.move (h:RnI p w0 wS loS wB ms vq mb bb fb eb tb W g s k mf mc) (hm:g'.m=g.m) (hs:Stp W g W' g') (ht:TwoI p w0 wS loS wB ms vq W' g' s') (hst:StOk p s'):RnI p w0 wS loS wB ms vq mb bb fb eb tb W' g' s' k mf mc:=by
 have q:∀ {n o},(n=mb\/n=bb\/n=fb\/n=eb\/n=tb)->W.heap[n]?=some o->W'.heap[n]?=some o:=fun hn ho=>hs.chg.at_ ho (h.off _ hn)
 have lt:∀ n,(n=mb\/n=bb\/n=fb\/n=eb\/n=tb)->n<W.heap.size:=fun n hn=>by
  rcases hn with rfl|rfl|rfl|rfl|rfl
  ·exact Ze h.cmb
  ·exact Ze h.cbb
  ·exact Ze h.cf
  ·exact Ze h.ce
  ·exact Ze h.ct
 refine⟨ht,hst,fun n hn e=>?_,h.up,?_,q (by simp) h.cbb,q (by simp) h.cf,q (by simp) h.ce,q (by simp) h.ct,h.ne⟩
 ·rcases hs.new n e with e|e
  ·exact h.off n hn e
  ·have:=lt n hn;omega
 ·rw[hm];exact q (by simp) h.cmb
structure ChI (w:World) (B:Nat) (l:List Int) (A:Option Addr) (c:Nat):Prop where
 at_:∀ (j:Nat) (x:Int),l[j]?=some x->∃ b o,A=some ⟨b,o,none⟩/\b<B/\w.cell? ⟨b,o+j,none⟩=some (.int .i64 x)
 cap:l.length<=c/\c<=9223372036854775807
theorem ChI.start {w:World} {B n c:Nat} {A:Option Addr} {l:List Int} (h:SlAt intR 1 w B (.slice A n c) l) (h1:l.length<=c) (h2:c<=9223372036854775807):ChI w B l A c:=by
 refine⟨fun j x hx=>?_,h1,h2⟩;obtain⟨y,b,o,hy,rfl,hb,hr⟩:=h.at_ (Le hx).1;rw[hx] at hy
 cases hy
 exact⟨b,o,rfl,hb,by have:=hr.1;rwa [Nat.mul_one] at this⟩
theorem Ycb:∀ W,(sizeOf 3).run Tryz.prog W=.ok 1 W:=fun _=>by kernel_rfl
theorem ChI.tail {w:World} {B c:Nat} {A:Option Addr} {x:Int} {l:List Int} (h:ChI w B (x::l) A c):∃ b o A2,A=some ⟨b,o,none⟩/\b<B/\w.cell? ⟨b,o,none⟩=some (.int .i64 x)/\(∀ W,(Instr.slice 62 (.slice (some ⟨b,o,none⟩) (l.length+1) c) (some (.int .i64 1)) none none).run Tryz.prog W=.ok (.slice A2 l.length (c-1)) W)/\ChI w B l A2 (c-1):=by
 obtain⟨b,o,rfl,hb,hc⟩:=h.at_ 0 x rfl;obtain⟨h1,h2⟩:=h.cap;rw[List.length_cons] at h1;have h3:(1:Int)<=(l.length:Int)+1:=by omega
 refine⟨b,o,if c=1 then some ⟨b,o,none⟩ else some ⟨b,o+1,none⟩,rfl,hb,hc,fun W=>?_,fun j y hj=>?_,by omega,by omega⟩
 ·by_cases hk0:c=1
  ·simp[Instr.slice,Instr.sliceBounds,Instr.sliceBound,run_underlying Tryz.underlying62,Result.andThen,asIntOf,h3,Ycb,Addr.add,hk0]
  ·simp[Instr.slice,Instr.sliceBounds,Instr.sliceBound,run_underlying Tryz.underlying62,Result.andThen,asIntOf,h3,Ycb,Addr.add,hk0]
 ·have hl:=(Le hj).1;obtain⟨b',o',e,-,hc'⟩:=h.at_ (j+1) y (by rw[List.getElem?_cons_succ];exact hj)
  cases e
  rw[if_neg (by omega)];exact⟨b,o+1,rfl,hb,by rw[Nat.add_right_comm,Nat.add_assoc];exact hc'⟩
def Ycn (w:World) (b:Nat):Nat:=match w.heap[b]? with
 |some (Obj.cells cs _ _)=>match cs[3]? with
  |some (Value.int _ n)=>n.toNat
  |_=>0
 |_=>0
theorem Yai {w:World} {b k:Nat} (h:w.heap[b]?=some (.cells #[.slice none 0 0,.slice none 0 0,.int .u8 0,.int .i64 k] 102 (0,0))):Ycn w b=k:=by
 unfold Ycn;rw[h];simp
def Ycr (p:GProg) (cs:List Int) (w:World) (e:Ending) (w':World):Prop:=∃ (FL:List FK) (CL:List CK) (vF vC:Value) (st mv:Nat),e=.returned (.tuple #[.agg #[vF,vC,.int .u8 st,.int .i64 mv],.int .i64 0])/\RunOut p cs FL CL st mv/\
 w'.ownsRow w.heap.size 93 5 vF FL.length (FL.flatMap clF)/\w'.ownsRow w.heap.size 81 4 vC CL.length (CL.flatMap clC)/\w.grownBy w' none
theorem Ydb {w wM wc wz:World} {tb b4 k st:Nat} {A1 A2:Option Addr} {c1 c2:Nat} {FL:List FK} {CL:List CK} (h:RnX p cs k s cs' mf mc) (e:k=16384\/Zzk p s cs'=none) (f1:∀ x,x∈mf'.map (·.1)↔x∈mf.map (·.1)\/x∈Zzf p s) (hF:FL.Perm (mf'.map (·.1))) (hC:CL.Perm (mc.map (·.1)))
  (oF:FL.Pairwise fun x y=>Zzb (Zza x) (Zza y)<0) (oC:CL.Pairwise fun x y=>Zzb (Zzc x) (Zzc y)<0) (rF:wc.ownsRow wM.heap.size 93 5 (.slice A1 FL.length c1) FL.length (FL.flatMap clF)) (rC:wc.ownsRow wM.heap.size 81 4 (.slice A2 CL.length c2) CL.length (CL.flatMap clC))
  (hc:Chg (fun n=>n=tb) wM wc) (hz:Chg (fun n=>n=tb\/n=b4) wc wz) (hg:w.grownBy wM none) (hl:∀ n,(n=tb\/n=b4)->w.heap.size<=n/\n<wM.heap.size) (hst:st=if s.stop=0 then 7 else s.stop):
  Ycr p cs w (.returned (.tuple #[.agg #[.slice A1 FL.length c1,.slice A2 CL.length c2,.int .u8 st,.int .i64 k],.int .i64 0])) wz:=by
 have hs:=hg.size;refine⟨FL,CL,_,_,st,k,rfl,by rw[hst];exact h.fin e f1 hF hC oF oC,?_,?_,?_⟩
 ·exact Zzu (hz.owns rF (fun n e q=>by have h1:=(rF.lt n e).1;have h2:=(hl n q).2;omega)) hs
 ·exact Zzu (hz.owns rC (fun n e q=>by have h1:=(rC.lt n e).1;have h2:=(hl n q).2;omega)) hs
 ·exact Chg.after hg ((hc.mono (fun n _ e=>.inl e)).trans hz (fun _ _ e=>e)) (fun n hn e=>by have:=(hl n e).1;omega)
theorem Yam {w:World} {base:Nat} {v:Value} {L:List FK} (h:w.ownsRow base 93 5 v L.length (L.flatMap clF)) {i:Nat} {x:FK} (hx:L[i]?=some x):∃ G c,v=.slice (some ⟨G,0,none⟩) L.length c/\G<w.heap.size/\
  ∀ W',w.grownBy W' none->W'.cell? ⟨G,i*5,none⟩=some (.int .i64 x.1.1)/\W'.cell? ⟨G,i*5+1,none⟩=some (.int .i64 x.1.2.1)/\W'.cell? ⟨G,i*5+2,none⟩=some (.int .i64 x.1.2.2)/\W'.cell? ⟨G,i*5+3,none⟩=some (.int .i64 x.2.1)/\W'.cell? ⟨G,i*5+4,none⟩=some (.int .i64 x.2.2):=by
 have hil:=(Le hx).1;obtain⟨A,c,rfl,-,-,h3,h4⟩:=Zz h
 cases A with
 |none=>have:=(h3 rfl).1;omega
 |some b=>
  obtain⟨e,-,-⟩:=h4 b rfl;have hlt:=(h.lt b.block rfl).2;rw[e] at h ⊢;obtain⟨-,-,-,-,h6⟩:=Xm h;have key:∀ j u,j<5->(clF x)[j]?=some u->w.cell? ⟨b.block,i*5+j,none⟩=some u:=fun j u hj hu=>h6 (i*5+j) u (by rw[Qz (sz:=5) (fun _ _=>rfl) hx hj];exact hu)
  exact⟨b.block,c,rfl,hlt,fun W' hg=>⟨Zp hg (key 0 _ (by omega) rfl),Zp hg (key 1 _ (by omega) rfl),Zp hg (key 2 _ (by omega) rfl),Zp hg (key 3 _ (by omega) rfl),Zp hg (key 4 _ (by omega) rfl)⟩⟩
theorem Yem {w:World} {base:Nat} {v:Value} {L:List CK} (h:w.ownsRow base 81 4 v L.length (L.flatMap clC)) {i:Nat} {x:CK} (hx:L[i]?=some x):∃ G c,v=.slice (some ⟨G,0,none⟩) L.length c/\G<w.heap.size/\
  ∀ W',w.grownBy W' none->W'.cell? ⟨G,i*4,none⟩=some (.int .i64 x.1.1)/\W'.cell? ⟨G,i*4+1,none⟩=some (.int .i64 x.1.2.1)/\W'.cell? ⟨G,i*4+2,none⟩=some (.int .i64 x.1.2.2)/\W'.cell? ⟨G,i*4+3,none⟩=some (.int .i64 x.2):=by
 have hil:=(Le hx).1;obtain⟨A,c,rfl,-,-,h3,h4⟩:=Zz h
 cases A with
 |none=>have:=(h3 rfl).1;omega
 |some b=>
  obtain⟨e,-,-⟩:=h4 b rfl;have hlt:=(h.lt b.block rfl).2;rw[e] at h ⊢;obtain⟨-,-,-,-,h6⟩:=Xm h;have key:∀ j u,j<4->(clC x)[j]?=some u->w.cell? ⟨b.block,i*4+j,none⟩=some u:=fun j u hj hu=>h6 (i*4+j) u (by rw[Qz (sz:=4) (fun _ _=>rfl) hx hj];exact hu)
  exact⟨b.block,c,rfl,hlt,fun W' hg=>⟨Zp hg (key 0 _ (by omega) rfl),Zp hg (key 1 _ (by omega) rfl),Zp hg (key 2 _ (by omega) rfl),Zp hg (key 3 _ (by omega) rfl)⟩⟩
end

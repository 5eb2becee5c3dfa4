/- A known program, as law15_known builds it. No condition. -/
import Derived.Test.YtphnnmecmiodhaaGreatERnr
set_option maxHeartbeats 8000000
set_option maxRecDepth 100000
set_option linter.all false
namespace Go.Proofs.YtphnnmecmiodhaaGreat
open Lib(hid)
section
open Go.RowKit Go.Shelf
def kn15l1:List Str:=[[108]]
def kn15l2:List GIns:=[⟨1,[112],[],[],1,[],[],[]⟩,⟨13,[],[],[],0,[],[],kn15l1⟩]
def kn15l3:List Str:=[[108],[109]]
def kn15l4:List GIns:=[⟨12,[],[],[],0,[],[],kn15l3⟩]
def kn15l5:List GIns:=[⟨14,[],[],[],0,[],[],[]⟩]
def kn15l6:List GBlk:=[⟨[101],kn15l2⟩,⟨[108],kn15l4⟩,⟨[109],kn15l5⟩]
def kn15l7:GProg:=[⟨[109,97,105,110],[],kn15l6⟩]
def kn15p:GProg:=kn15l7
def Yey (w:World):List Obj->World
 |[]=>w
 |o::l=>Yey (w.alloc o) l
theorem Yex:∀ (l:List Obj) (w:World),w.grownBy (Yey w l) none
 |[],w=>Lb w none
 |o::l,w=>Zb (Lc w o none) (Yex l _)
theorem Yez:∀ (l:List Obj) (w:World),(Yey w l).heap.size=w.heap.size+l.length
 |[],w=>rfl
 |o::l,w=>by
  show (Yey (w.alloc o) l).heap.size=_;rw[Yez l,World.size_alloc,List.length_cons];omega
theorem Yfa:∀ (l:List Obj) (w:World) (i:Nat) (o:Obj),l[i]?=some o->(Yey w l).heap[w.heap.size+i]?=some o
 |o::l,w,0,o',h=>by
  cases h
  exact ((Yex l (w.alloc o)).block _ (Ze (La w o)) (by simp)).trans (La w o)
 |o::l,w,i+1,o',h=>by
  have:=Yfa l (w.alloc o) i o' h;rw[World.size_alloc] at this;show (Yey (w.alloc o) l).heap[_]?=_;rw[<-this]
  congr 1
  omega
def kn15o (b:Nat):List Obj:=[.cells #[.slice (some ⟨b+7,0,none⟩) 1 1] 47,
 .cells #[.string ⟨#[108]⟩] 9,
 .cells #[.int .u8 1,.string ⟨#[112]⟩,.string ⟨#[]⟩,.string ⟨#[]⟩,.int .i64 1,.string ⟨#[]⟩,.slice none 0 0,.slice none 0 0,.int .u8 13,.string ⟨#[]⟩,.string ⟨#[]⟩,.string ⟨#[]⟩,.int .i64 0,.string ⟨#[]⟩,.slice none 0 0,.slice (some ⟨b+1,0,none⟩) 1 1] 25,
 .cells #[.string ⟨#[108]⟩,.string ⟨#[109]⟩] 9,
 .cells #[.int .u8 12,.string ⟨#[]⟩,.string ⟨#[]⟩,.string ⟨#[]⟩,.int .i64 0,.string ⟨#[]⟩,.slice none 0 0,.slice (some ⟨b+3,0,none⟩) 2 2] 25,
 .cells #[.int .u8 14,.string ⟨#[]⟩,.string ⟨#[]⟩,.string ⟨#[]⟩,.int .i64 0,.string ⟨#[]⟩,.slice none 0 0,.slice none 0 0] 25,
 .cells #[.string ⟨#[101]⟩,.slice (some ⟨b+2,0,none⟩) 2 2,.string ⟨#[108]⟩,.slice (some ⟨b+4,0,none⟩) 1 1,.string ⟨#[109]⟩,.slice (some ⟨b+5,0,none⟩) 1 1] 39,
 .cells #[.string ⟨#[109,97,105,110]⟩,.slice none 0 0,.slice (some ⟨b+6,0,none⟩) 3 3] 37]
def Zzd (w:World):World:=Yey w (kn15o w.heap.size)
theorem Ycq (w:World):(Zzd w).heap.size=w.heap.size+8:=Yez _ w
theorem Yag (w:World):w.grownBy (Zzd w) none:=Yex _ w
theorem Yew (w:World) (i:Nat) {cs:Array Value} {t:TypeId} (h:(kn15o w.heap.size)[i]?=some (.cells cs t (0,0))):(Zzd w).heap[w.heap.size+i]?=some (.cells cs t (0,0)):=Yfa _ w i _ h
theorem Ybh (w:World):ProgAt (Zzd w) (Zzd w).heap.size (.slice (some ⟨w.heap.size+1+1+1+1+1+1+1,0,none⟩) 1 1) kn15p:=by
 have hs:=Ycq w;have h1:StrsAt (Zzd w) (Zzd w).heap.size (.slice (some ⟨w.heap.size+1,0,none⟩) 1 1) kn15l1:=Zpm rfl (by decide) (by omega) (V8 ⟨(Za (Yew w 1 rfl)).1 0,by decide⟩ Zfz);have h2:CodeAt (Zzd w) (Zzd w).heap.size (.slice (some ⟨w.heap.size+2,0,none⟩) 2 2) kn15l2:=Zpm rfl (by decide) (by omega) (V8 ⟨_,_,⟨SlAt.nil_ strR 1 _ _,by decide,by decide,SlAt.nil_ strR 1 _ _,by decide,by decide,by decide,by decide,by decide,by decide,by decide⟩,(Za (Yew w 2 rfl)).1 0,(Za (Yew w 2 rfl)).1 1,(Za (Yew w 2 rfl)).1 2,(Za (Yew w 2 rfl)).1 3,(Za (Yew w 2 rfl)).1 4,(Za (Yew w 2 rfl)).1 5,(Za (Yew w 2 rfl)).1 6,(Za (Yew w 2 rfl)).1 7⟩ (V8 ⟨_,_,⟨SlAt.nil_ strR 1 _ _,by decide,by decide,h1,by decide,by decide,by decide,by decide,by decide,by decide,by decide⟩,(Za (Yew w 2 rfl)).1 8,(Za (Yew w 2 rfl)).1 9,(Za (Yew w 2 rfl)).1 10,(Za (Yew w 2 rfl)).1 11,(Za (Yew w 2 rfl)).1 12,(Za (Yew w 2 rfl)).1 13,(Za (Yew w 2 rfl)).1 14,(Za (Yew w 2 rfl)).1 15⟩ Zfz));have h3:StrsAt (Zzd w) (Zzd w).heap.size (.slice (some ⟨w.heap.size+3,0,none⟩) 2 2) kn15l3:=Zpm rfl (by decide) (by omega) (V8 ⟨(Za (Yew w 3 rfl)).1 0,by decide⟩ (V8 ⟨(Za (Yew w 3 rfl)).1 1,by decide⟩ Zfz));have h4:CodeAt (Zzd w) (Zzd w).heap.size (.slice (some ⟨w.heap.size+4,0,none⟩) 1 1) kn15l4:=Zpm rfl (by decide) (by omega) (V8 ⟨_,_,⟨SlAt.nil_ strR 1 _ _,by decide,by decide,h3,by decide,by decide,by decide,by decide,by decide,by decide,by decide⟩,(Za (Yew w 4 rfl)).1 0,(Za (Yew w 4 rfl)).1 1,(Za (Yew w 4 rfl)).1 2,(Za (Yew w 4 rfl)).1 3,(Za (Yew w 4 rfl)).1 4,(Za (Yew w 4 rfl)).1 5,(Za (Yew w 4 rfl)).1 6,(Za (Yew w 4 rfl)).1 7⟩ Zfz);have h5:CodeAt (Zzd w) (Zzd w).heap.size (.slice (some ⟨w.heap.size+5,0,none⟩) 1 1) kn15l5:=Zpm rfl (by decide) (by omega) (V8 ⟨_,_,⟨SlAt.nil_ strR 1 _ _,by decide,by decide,SlAt.nil_ strR 1 _ _,by decide,by decide,by decide,by decide,by decide,by decide,by decide⟩,(Za (Yew w 5 rfl)).1 0,(Za (Yew w 5 rfl)).1 1,(Za (Yew w 5 rfl)).1 2,(Za (Yew w 5 rfl)).1 3,(Za (Yew w 5 rfl)).1 4,(Za (Yew w 5 rfl)).1 5,(Za (Yew w 5 rfl)).1 6,(Za (Yew w 5 rfl)).1 7⟩ Zfz);have h6:BlocksAt (Zzd w) (Zzd w).heap.size (.slice (some ⟨w.heap.size+6,0,none⟩) 3 3) kn15l6:=Zpm rfl (by decide) (by omega) (V8 ⟨_,⟨h2,by decide⟩,(Za (Yew w 6 rfl)).1 0,(Za (Yew w 6 rfl)).1 1⟩ (V8 ⟨_,⟨h4,by decide⟩,(Za (Yew w 6 rfl)).1 2,(Za (Yew w 6 rfl)).1 3⟩ (V8 ⟨_,⟨h5,by decide⟩,(Za (Yew w 6 rfl)).1 4,(Za (Yew w 6 rfl)).1 5⟩ Zfz)));have h7:ProgAt (Zzd w) (Zzd w).heap.size (.slice (some ⟨w.heap.size+7,0,none⟩) 1 1) kn15l7:=Zpm rfl (by decide) (by omega) (V8 ⟨_,_,⟨SlAt.nil_ strR 1 _ _,h6,by decide⟩,(Za (Yew w 7 rfl)).1 0,(Za (Yew w 7 rfl)).1 1,(Za (Yew w 7 rfl)).1 2⟩ Zfz);exact h7
theorem Yce (w:World):Calls Tryz.prog 93 #[] w fun e w'=>e=.returned (.agg #[.slice (some ⟨w.heap.size+1+1+1+1+1+1+1,0,none⟩) 1 1])/\w'=Zzd w:=by
 have hc:(Zzd w).cell? ⟨w.heap.size,0,none⟩=some (.slice (some ⟨w.heap.size+1+1+1+1+1+1+1,0,none⟩) 1 1):=(Za (Yew w 0 rfl)).1 0;go_enter Tryz.func93,Tryz.ntmps93;go_wp2;refine (show ∀ W,W=Zzd w->bodyPost _ _ _ .ret _ W from fun W hW=>?_) _ rfl;subst hW;refine bodyPost_ret (v:=.agg #[.slice (some ⟨w.heap.size+1+1+1+1+1+1+1,0,none⟩) 1 1]) (by simp[results,Tryz.results93,go_sem,hc]) rfl ⟨rfl,rfl⟩
end
def Ybm (x:Nat):List Nat->List Nat
 |[]=>[x]
 |y::l=>if x<y then x::y::l else if x=y then y::l else y::Ybm x l
def Ybf (l:List Nat):List Nat:=l.foldr Ybm []
theorem mem_insU {x y:Nat}:∀ {l:List Nat},y∈Ybm x l↔y=x\/y∈l
 |[]=>by simp[Ybm]
 |z::l=>by
  unfold Ybm
  split
  ·simp
  ·split
   ·rename_i h
    subst h;simp
   ·simp only[List.mem_cons,mem_insU (l:=l)];constructor
    ·rintro (h|h|h)
     ·exact .inr (.inl h)
     ·exact .inl h
     ·exact .inr (.inr h)
    ·rintro (h|h|h)
     ·exact .inr (.inl h)
     ·exact .inl h
     ·exact .inr (.inr h)
theorem Ycu {x:Nat}:∀ {l:List Nat},l.Pairwise (·<·)->(Ybm x l).Pairwise (·<·)
 |[],_=>by simp[Ybm]
 |z::l,h=>by
  unfold Ybm;rw[List.pairwise_cons] at h
  split
  ·rename_i hx
   exact List.pairwise_cons.2 ⟨fun a ha=>by
    rcases List.mem_cons.1 ha with rfl|ha
    ·exact hx
    ·exact Nat.lt_trans hx (h.1 a ha),List.pairwise_cons.2 h⟩
  ·split
   ·exact List.pairwise_cons.2 h
   ·exact List.pairwise_cons.2 ⟨fun a ha=>by
     rcases mem_insU.1 ha with rfl|ha
     ·omega
     ·exact h.1 a ha,Ycu h.2⟩
theorem mem_sortU {y:Nat}:∀ {l:List Nat},y∈Ybf l↔y∈l
 |[]=>by simp[Ybf]
 |x::l=>by
  show y∈Ybm x (Ybf l)↔_;rw[mem_insU,mem_sortU (l:=l),List.mem_cons]
theorem Ych:∀ l:List Nat,(Ybf l).Pairwise (·<·)
 |[]=>by simp[Ybf]
 |x::l=>Ycu (Ych l)
theorem Ydq:∀ {l l':List Nat},l.Pairwise (·<·)->l'.Pairwise (·<·)->(∀ x,x∈l↔x∈l')->l=l'
 |[],[],_,_,_=>rfl
 |[],y::l',_,_,h=>by have:=(h y).2 (by simp);cases this
 |x::l,[],_,_,h=>by have:=(h x).1 (by simp);cases this
 |x::l,y::l',h1,h2,h=>by
  rw[List.pairwise_cons] at h1 h2;have e:x=y:=by
   rcases List.mem_cons.1 ((h x).1 (by simp)) with e|e
   ·exact e
   ·rcases List.mem_cons.1 ((h y).2 (by simp)) with e'|e'
    ·exact e'.symm
    ·have a:=h2.1 x e;have b:=h1.1 y e';omega
  subst e;rw[Ydq h1.2 h2.2 fun z=>?_];have:=h z;simp only[List.mem_cons] at this;constructor
  ·intro hz
   rcases this.1 (.inr hz) with e|e
   ·have:=h1.1 z hz;omega
   ·exact e
  ·intro hz
   rcases this.2 (.inr hz) with e|e
   ·have:=h2.1 z hz;omega
   ·exact e
theorem Yca (l:List Nat):Zfy l=Ybf l:=Ydq (Zup l) (Ych l) fun x=>mem_formN.trans mem_sortU.symm
def Yas (bs:List GBlk):Gph:=bs.map fun b=>Ybf (J0 bs b)
theorem Ybt (bs:List GBlk):Zv bs=Yas bs:=by
 unfold Zv Yas;exact List.map_congr_left fun b _=>Yca _
def clos (g:Gph) (ok:Nat->Bool):Nat->List Nat->List Nat
 |0,S=>S
 |n+1,S=>clos g ok n (S++((S.flatMap (row g)).filter fun c=>ok c&& !S.contains c))
def Yaa (g:Gph) (ok:Nat->Bool) (S:List Nat):Bool:=S.all fun b=>(row g b).all fun c=> !ok c||S.contains c
def Ycj (g:Gph) (ok:Nat->Bool):List Nat:=clos g ok g.length [0]
theorem Yax {g:Gph} {ok:Nat->Bool} {P:Nat->Prop} (hP:∀ b c,P b->c∈row g b->ok c=true->P c):∀ (n:Nat) (S:List Nat),(∀ b∈S,P b)->∀ b∈clos g ok n S,P b
 |0,_,h=>h
 |n+1,S,h=>Yax hP n _ fun b hb=>by
  rcases List.mem_append.1 hb with hb|hb
  ·exact h b hb
  ·obtain⟨h1,h2⟩:=List.mem_filter.1 hb;obtain⟨a,ha,hc⟩:=List.mem_flatMap.1 h1;simp only[Bool.and_eq_true] at h2;exact hP a b (h a ha) hc h2.1
theorem Yay {g:Gph} {ok:Nat->Bool}:∀ (n:Nat) (S:List Nat),∀ b∈S,b∈clos g ok n S
 |0,_,_,h=>h
 |n+1,S,b,h=>Yay n _ b (List.mem_append.2 (.inl h))
theorem Yap {g:Gph} {ok:Nat->Bool} {S:List Nat} (h:Yaa g ok S=true) {b c:Nat} (hb:b∈S) (hc:c∈row g b) (ho:ok c=true):c∈S:=by
 unfold Yaa at h;have:=List.all_eq_true.1 (List.all_eq_true.1 h b hb) c hc;simpa [ho] using this
def Ybs (g:Gph) (k:Nat):Bool:=(Ycj g fun _=>true).contains k
theorem path_C {g:Gph} (h:Yaa g (fun _=>true) (Ycj g fun _=>true)=true) (k:Nat):Path g 0 k↔k∈Ycj g fun _=>true:=
 ⟨fun hp=>by
  induction hp with
  |refl=>exact Yay _ _ _ (by simp)
  |step _ hc ih=>exact Yap h ih hc rfl,
 fun hk=>Yax (P:=fun b=>Path g 0 b) (fun b c hb hc _=>hb.step hc) _ [0] (fun b hb=>by rw[List.mem_singleton.1 hb];exact .refl) k hk⟩
theorem Ybe {g:Gph} {k:Nat}:J1 g k=true↔Path g 0 k:=by simp only[J1,decide_eq_true_eq]
theorem Ycy {g:Gph} (h:Yaa g (fun _=>true) (Ycj g fun _=>true)=true) (k:Nat):J1 g k=Ybs g k:=by
 rw[Bool.eq_iff_iff,Ybe,path_C h];unfold Ybs;rw[List.contains_iff_mem]
def avC (g:Gph) (a b:Nat):Bool:=a != 0&&(Ycj g (· != a)).contains b
theorem av_C {g:Gph} {a:Nat} (h:Yaa g (· != a) (Ycj g (· != a))=true) (b:Nat):PathAv g 0 a b↔avC g a b=true:=by
 unfold avC;rw[Bool.and_eq_true,List.contains_iff_mem,bne_iff_ne];constructor
 ·intro hp
  induction hp with
  |start h0=>exact⟨fun e=>h0 e.symm,Yay _ _ _ (by simp)⟩
  |step _ hc hne ih=>exact⟨ih.1,Yap h ih.2 hc (by simpa using hne)⟩
 ·rintro⟨h0,hb⟩;exact Yax (P:=fun b=>PathAv g 0 a b) (fun b c hb hc ho=>hb.step hc (by simpa using ho)) _ [0] (fun b hb=>by rw[List.mem_singleton.1 hb];exact .start fun e=>h0 e.symm) b hb
def domC (g:Gph) (a b:Nat):Bool:=Ybs g b&& !(avC g a b)
def gOk (g:Gph):Bool:=Yaa g (fun _=>true) (Ycj g fun _=>true)&&(List.range g.length).all fun a=>Yaa g (· != a) (Ycj g (· != a))
theorem dom_C {g:Gph} (h:gOk g=true) {a:Nat} (ha:a<g.length) (b:Nat):Zar g a b=domC g a b:=by
 unfold gOk at h;rw[Bool.and_eq_true] at h;have h2:=List.all_eq_true.1 h.2 a (List.mem_range.2 ha);have e1:Zar g a b=true↔Path g 0 b/\Zah g 0 a b:=by simp only[Zar,decide_eq_true_eq]
 have e2:domC g a b=true↔Path g 0 b/\¬ PathAv g 0 a b:=by
  unfold domC;rw[Bool.and_eq_true,<-Ycy h.1,Ybe,av_C h2];simp
 rw[Bool.eq_iff_iff,e1,e2];rfl
theorem Ydp (a b:List Str):decide (Qf a=Qf b)=a.isPerm b:=by
 rw[Bool.eq_iff_iff,decide_eq_true_iff,List.isPerm_iff];constructor
 ·intro h;exact ((List.mergeSort_perm _ _).symm.trans (by unfold Qf at h;rw[h])).trans (List.mergeSort_perm _ _)
 ·intro h;have tt:∀ x y:Str,(decide (x<=y)||decide (y<=x))=true:=fun x y=>by simpa using List.le_total x y
  have tr:∀ x y z:Str,decide (x<=y)=true->decide (y<=z)=true->decide (x<=z)=true:=fun x y z h1 h2=>by
   simp only[decide_eq_true_eq] at h1 h2 ⊢;exact List.le_trans h1 h2
  unfold Qf;refine List.Perm.eq_of_pairwise (le:=fun x y=>decide (x<=y)=true) (fun x y _ _ h1 h2=>?_) (List.pairwise_mergeSort tr tt a) (List.pairwise_mergeSort tr tt b) (((List.mergeSort_perm a _).trans h).trans (List.mergeSort_perm b _).symm);simp only[decide_eq_true_eq] at h1 h2;exact List.le_antisymm h1 h2
def recF (f:GFun):Bool:= !f.bk9.isEmpty&&gOk (Yas f.bk9)&&f.bk9.all fun y=>decide (y.code.length<=4096)
def Ybj (f:GFun) (s:Str) (k:Nat):Bool:=s == nought||decide ((Yy f s).1<0)||domC (Yas f.bk9) (Yy f s).1.toNat k
def atC (f:GFun) (s:Str) (k i:Nat):Bool:=if (Yy f s).1=k then decide ((Yy f s).2<i) else Ybj f s k
def phiC (f:GFun) (k _:Nat) (x:GIns):Bool:=x.op == 6&& !((((Xx (Yas f.bk9))[k]?.getD []).map (Yo f.bk9)).isPerm x.lb9)
def Ycw (f:GFun) (x:GIns):Bool:=(List.range x.args.length).any fun j=> !(Ybj f (x.args[j]?.getD []) ((Yd f.bk9 (x.lb9[j]?.getD [])).getD 0))
def Ybp (f:GFun) (k i:Nat) (x:GIns):Bool:=if x.op=6 then Ycw f x else (Kj x).any fun s=> !(atC f s k i)
def Yaf (f:GFun):Nat->Option (Nat×Nat)
 |17=>V7 f (Uq f)
 |18=>((List.range f.bk9.length).find? fun k=> !(Ybs (Yas f.bk9) k)).map fun k=>(k,0)
 |19=>V7 f (phiC f)
 |20=>V7 f (Ybp f)
 |_=>none
theorem Yct {f:GFun} (h:recF f=true) (s:Str) (k:Nat):Xk f s k=Ybj f s k:=by
 unfold recF at h;simp only[Bool.and_eq_true,Bool.not_eq_true',List.all_eq_true,decide_eq_true_eq] at h;obtain⟨⟨h1,h2⟩,h3⟩:=h;have hne:f.bk9≠[]:=fun e=>by rw[e] at h1;cases h1
 have hp:=Zpz hne h3 s;unfold Xk Ybj
 by_cases h0:(Yy f s).1<0
 ·simp[h0]
 ·rw[Ybt,dom_C h2 (by unfold Yas;rw[List.length_map];have:=hp.2.1;omega)]
theorem at_C {f:GFun} (h:recF f=true) (s:Str) (k i:Nat):atB f s k i=atC f s k i:=by
 unfold atB atC;rw[Yct h]
theorem rule_C {f:GFun} (h:recF f=true) {r:Nat} (hr:r∈Yv):U3 f r=Yaf f r:=by
 have h2:gOk (Yas f.bk9)=true:=by
  unfold recF at h;simp only[Bool.and_eq_true] at h;exact h.1.2
 unfold gOk at h2;rw[Bool.and_eq_true] at h2;simp only[Yv,List.mem_cons,List.not_mem_nil,or_false] at hr
 rcases hr with rfl|rfl|rfl|rfl
 ·rfl
 ·show Xw f=_;unfold Xw Yaf;rw[Ybt];simp only[Ycy h2.1]
 ·show V7 f (Zcz f)=V7 f (phiC f)
  congr 1
  funext k i x
  unfold Zcz phiC Zni;rw[Ydp,Ybt]
 ·show V7 f (X6 f)=V7 f (Ybp f)
  congr 1
  funext k i x
  unfold X6 Ybp Zba Ycw;simp only[Yct h,at_C h]
def sndC (p:GProg):Nat×GPt:=
 if (Yc p).1≠0 then Yc p
 else match Zq [17,18,19,20] fun _ r=>(Zq p fun i f=>(Yaf f r).map fun x=>(i,x.1,x.2)).map fun pt=>(r,pt) with
  |some r=>r
  |none=>if 65536<Kc p\/65536<Jj p then (21,(0,0,0)) else (0,(0,0,0))
theorem Zzq {α β:Type} {g g':Nat->α->Option β}:∀ (l:List α) (k:Nat),(∀ j x,x∈l->g j x=g' j x)->Y2 g k l=Y2 g' k l
 |[],_,_=>rfl
 |x::l,k,h=>by
  unfold Y2;rw[h k x (by simp),Zzq l (k+1) fun j y hy=>h j y (by simp[hy])]
theorem snd_C {p:GProg} (h:p.all recF=true):Y5 p=sndC p:=by
 have e:(Zq [17,18,19,20] fun _ r=>(Jn p r).map fun pt=>(r,pt))=Zq [17,18,19,20] fun _ r=>(Zq p fun i f=>(Yaf f r).map fun x=>(i,x.1,x.2)).map fun pt=>(r,pt):=
  Zzq _ 0 fun _ r hr=>by
   have:Jn p r=Zq p fun i f=>(Yaf f r).map fun x=>(i,x.1,x.2):=Zzq p 0 fun i f hf=>by rw[rule_C (List.all_eq_true.1 h f hf) hr]
   rw[this]
 unfold Y5 sndC;rw[e];rfl
section
open Go.RowKit Go.Shelf
theorem Ycf:(Y5 kn15p).1=0:=by rw[snd_C (by decide+kernel)];decide+kernel
def kn15a:List FK:=[((0,0,1),0,0),((0,1,0),0,0)]
def kn15b:List FK:=[((0,0,1),0,0),((0,1,0),0,0),((0,2,0),0,0)]
theorem Ybi {p:GProg} {cs:List Int} {F FL:List FK} {CL:List CK} {st mv n a b:Nat} (h:RunOut p cs FL CL st mv) (hF:F.Pairwise fun x y=>Zzb (Zza x) (Zza y)<0)
  (h1:∀ s∈Zzl p 16384 (gm0 p) cs,∀ x∈Zzf p s,x∈F) (h2:∀ x∈F,∃ s∈Zzl p 16384 (gm0 p) cs,x∈Zzf p s) (h3:(Zzl p 16384 (gm0 p) cs).length=n+1) (h4:((Zzl p 16384 (gm0 p) cs).getLast?).map (·.stop)=some a) (hb:b=if a=0 then 7 else a):FL=F/\st=b/\mv=n:=by
 refine⟨Ydm Ycm Ydh h.ford hF fun x=>?_,?_,?_⟩
 ·rw[h.fmem];exact⟨fun ⟨s,hs,hx⟩=>h1 s hs x hx,h2 x⟩
 ·obtain⟨s,hs,e⟩:=h.stop;rw[hs] at h4;simp only[Option.map_some,Option.some.injEq] at h4;rw[e,hb,h4]
 ·have:=h.moves;omega
theorem kn15_a {FL:List FK} {CL:List CK} {st mv:Nat} (h:RunOut kn15p [] FL CL st mv):FL=kn15a/\st=7/\mv=2:=Ybi (a:=0) h (by decide+kernel) (by decide+kernel) (by decide+kernel) (by decide+kernel) (by decide+kernel) rfl
theorem kn15_b {FL:List FK} {CL:List CK} {st mv:Nat} (h:RunOut kn15p [0,0,1] FL CL st mv):FL=kn15b/\st=1/\mv=6:=Ybi (a:=1) h (by decide+kernel) (by decide+kernel) (by decide+kernel) (by decide+kernel) (by decide+kernel) rfl
theorem Yci (w:World):Calls Tryz.prog 51 #[] w fun e w'=>e=.returned (.bool true)/\w.grownBy w' none:=by
 have hr1:=Yda kn15p _ (.slice none 0 0) [] (Zzd w).heap.size (Zzd w) (Lf _) (Ybh w) (SlAt.nil_ _ _ _ _) Ycf;have Hg0:=hid (Yag w);have hkn:=Yce w;obtain⟨W0,hW0⟩:∃ W0,W0=Zzd w:=⟨_,rfl⟩
 rw[<-hW0] at hr1 Hg0 hkn;obtain⟨u0,hu0⟩:∃ u,u=w.heap.size+1+1+1+1+1+1+1:=⟨_,rfl⟩
 rw[<-hu0] at hr1 hkn;clear hW0 hu0;go_enter Tryz.func51,Tryz.ntmps51;go_upto_region 2 with (first|(go_at_call 93;refine hkn.mono ?_;rintro e w0 ⟨rfl,rfl⟩)|(go_at_call 53;refine hr1.mono ?_;rintro e w1 ⟨FL,CL,vF,vC,st,mv,rfl,hout,hrF,hrC,hg1⟩;obtain⟨rfl,rfl,rfl⟩:=kn15_a hout;obtain⟨A1,c1,rfl,-,-,-,-⟩:=Zz hrF;obtain⟨A2,c2,rfl,-,-,-,-⟩:=Zz hrC;have Hg1:=hid hg1;clear hout hrF hrC hg1 hr1 hkn))
 rw[show kn15a.length=2 from rfl];obtain⟨w2,hw2⟩:∃ w2,w2=w1.alloc (.cells #[.slice A1 2 c1,.slice A2 CL.length c2,.int .u8 7,.int .i64 2] 102):=⟨_,rfl⟩
 obtain⟨u1,hu1⟩:∃ u1,u1=w1.heap.size:=⟨_,rfl⟩
 rw[<-hw2,<-hu1];have hg2:w.grownBy w2 none:=by rw[hw2];exact Zd (Zb Hg0.out Hg1.out) _
 have hb2:w2.heap[u1]?=some (.cells #[.slice A1 2 c1,.slice A2 CL.length c2,.int .u8 7,.int .i64 2] 102 (0,0)):=by rw[hw2,hu1];exact La _ _
 have hkn:=Yce w2;have hp3:=Ybh w2;have hg3:=Zb hg2 (Yag w2);have hb3:=((Yag w2).block _ (Ze hb2) (by simp)).trans hb2;obtain⟨W3,hW3⟩:∃ W3,W3=Zzd w2:=⟨_,rfl⟩
 obtain⟨u2,hu2⟩:∃ u,u=w2.heap.size+1+1+1+1+1+1+1:=⟨_,rfl⟩
 rw[<-hW3] at hkn hp3 hg3 hb3;rw[<-hu2] at hkn hp3;obtain⟨w4,hw4⟩:∃ w4,w4=W3.alloc (.cells #[.int .i64 0,.int .i64 0,.int .i64 1] 3):=⟨_,rfl⟩
 have hg34:W3.grownBy w4 none:=by rw[hw4];exact Lc _ _ _
 have hb4:w4.heap[W3.heap.size]?=some (.cells #[.int .i64 0,.int .i64 0,.int .i64 1] 3 (0,0)):=by rw[hw4];exact La _ _
 have hr2:=Yda kn15p _ (.slice (some ⟨W3.heap.size,0,none⟩) 3 3) [0,0,1] w4.heap.size w4 (Lf _) ((hp3.below funR.keeps (Zk hg34) (Lf _)).more funR.keeps hg34.size)
  (Zpm rfl (by decide) (Ze hb4) (V8 ⟨(Za hb4).1 0,by decide⟩ (V8 ⟨(Za hb4).1 1,by decide⟩ (V8 ⟨(Za hb4).1 2,by decide⟩ Zfz)))) Ycf
 have Hg4:=hid (Zb hg3 hg34);have Hb4:=hid ((hg34.block _ (Ze hb3) (by simp)).trans hb3);have Hw4:=hid hw4;clear hw2 hu1 hg2 hb2 hp3 hg3 hb3 hW3 hu2 hg34 hb4 hw4;go_upto_region 3 with (first|(go_at_call 93;refine hkn.mono ?_;rintro e w0 ⟨rfl,rfl⟩)|(go_at_call 53;rw[<-Hw4.out];refine hr2.mono ?_;rintro e w5 ⟨FL,CL2,vF,vC,st,mv,rfl,hout,hrF,hrC,hg5⟩;obtain⟨rfl,rfl,rfl⟩:=kn15_b hout;obtain⟨G,c3,rfl,hG,hcl⟩:=Yam (i:=0) hrF rfl;obtain⟨A4,c4,rfl,-,-,-,-⟩:=Zz hrC;have HrF:=hid hrF;have Hg5:=hid hg5;clear hout hrF hrC hg5 hr2 hkn hcl))
 rw[show kn15b.length=3 from rfl];obtain⟨w6,hw6⟩:∃ w6,w6=w5.alloc (.cells #[.slice (some ⟨G,0,none⟩) 3 c3,.slice A4 CL2.length c4,.int .u8 1,.int .i64 6] 102):=⟨_,rfl⟩
 obtain⟨u3,hu3⟩:∃ u3,u3=w5.heap.size:=⟨_,rfl⟩
 have hg56:w5.grownBy w6 none:=by rw[hw6];exact Lc _ _ _
 have hb6:w6.heap[u3]?=some (.cells #[.slice (some ⟨G,0,none⟩) 3 c3,.slice A4 CL2.length c4,.int .u8 1,.int .i64 6] 102 (0,0)):=by rw[hw6,hu3];exact La _ _
 have hb1:=((Zb Hg5.out hg56).block _ (Ze Hb4.out) (by simp)).trans Hb4.out;rw[<-hw6,<-hu3];obtain⟨G',c',e1,-,hc0⟩:=Yam (i:=0) HrF.out rfl
 cases e1
 obtain⟨G',c',e1,-,hc1⟩:=Yam (i:=1) HrF.out rfl
 cases e1
 obtain⟨x0,x1,x2,x3,x4⟩:=hc0 w6 hg56;obtain⟨y0,y1,y2,y3,y4⟩:=hc1 w6 hg56;have a0:w6.cell? ⟨u1,0,none⟩=some (.slice A1 2 c1):=(Za hb1).1 0;have a2:w6.cell? ⟨u1,2,none⟩=some (.int .u8 7):=(Za hb1).1 2;have a3:w6.cell? ⟨u1,3,none⟩=some (.int .i64 2):=(Za hb1).1 3;have b0:w6.cell? ⟨u3,0,none⟩=some (.slice (some ⟨G,0,none⟩) 3 c3):=(Za hb6).1 0;have b2:w6.cell? ⟨u3,2,none⟩=some (.int .u8 1):=(Za hb6).1 2;have b3:w6.cell? ⟨u3,3,none⟩=some (.int .i64 6):=(Za hb6).1 3;have HG:=hid (Zb Hg4.out (Zb Hg5.out hg56));clear hw6 hu3 hg56 hb6 hb1 hc0 hc1 Hg5 Hb4 Hg4 Hg0 Hg1 HrF Hw4;simp only[Nat.zero_mul,Nat.one_mul,Nat.zero_add] at x0 x1 x2 x3 x4 y0 y1 y2 y3 y4
 have Hcmp:=hid (fun W:World=>show Calls Tryz.prog 47 #[.agg #[.int .i64 ((0:Nat):Int),.int .i64 ((0:Nat):Int),.int .i64 ((1:Nat):Int),.int .i64 0,.int .i64 ((0:Nat):Int)],.agg #[.int .i64 ((0:Nat):Int),.int .i64 ((1:Nat):Int),.int .i64 ((0:Nat):Int),.int .i64 0,.int .i64 ((0:Nat):Int)]] W fun e w'=>e=.returned (.int .i64 (-1))/\W.grownBy w' none from
                     (Yae _ _ _ _ _ _ _ _ _ _ W).mono fun e w' h=>⟨h.1.trans (by rw[show Zzb [((0:Nat):Int),((0:Nat):Int),((1:Nat):Int),0,((0:Nat):Int)] [((0:Nat):Int),((1:Nat):Int),((0:Nat):Int),0,((0:Nat):Int)]= -1 by decide]),h.2.grown⟩)
 go_still_tail 47,(by kernel_rfl)
 change wpList _ _ _ _ _ w6.drew;have HG2:=hid (Zf HG.out);generalize w6.drew=w7 at HG2 ⊢;clear a0 a2 a3 b0 b2 b3 x0 x1 x2 x3 x4 y0 y1 y2 y3 y4;go_wp2_with (go_at_call 47;refine (Hcmp.out _).mono ?_;rintro e w8 ⟨rfl,hg8⟩;have Hg8:=hid hg8;clear hg8);go_ret;exact⟨rfl,Zb HG2.out Hg8.out⟩
end

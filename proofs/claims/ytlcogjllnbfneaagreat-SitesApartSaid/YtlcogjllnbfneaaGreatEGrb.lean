/- The contract of graph. Conditions in it. -/
import Derived.Test.YtlcogjllnbfneaaGreatEGra
import Derived.Test.YtlcogjllnbfneaaGreatENa
set_option maxHeartbeats 1000000
set_option maxRecDepth 100000
set_option linter.all false
namespace Go.Proofs.YtlcogjllnbfneaaGreat
open Lib(hid)
section
open Go.RowKit
def BackOut (g:Gph) (w:World) (e:Ending) (w':World):Prop:=∃ S base,e=.returned (.slice (some ⟨S,0,none⟩) g.length g.length)/\w.heap.size<=S/\OwnG base w' S (Xx g)/\Below w.heap.size w w'
theorem Zkz (v:Value) (g:List (List Nat)) (B:Nat) (w:World) (hB:B<=w.heap.size) (h:GraphAt w B v g) (hok:GOk g):
  Calls Tryz.prog 126 #[v] w fun e w'=>BackOut g w e w':=by
 have hlen:=hok.len;have hmk:=Zbd g.length hlen;have hno:=Zmm v g w.heap.size (w.alloc (.cells (Array.replicate g.length (.slice none 0 0)) 84)) (by simp) ((h.more rowR.keeps hB).below rowR.keeps ((Below.refl w.heap.size w).alloc (Lf _) _) (Lf _)) hok;obtain⟨A,c,rfl,hm,hlc,hcm,hA⟩:=h.open_;clear h hA;go_enter Tryz.func126,Tryz.ntmps126;go_wp2_with (go_at_call 180;refine hno.mono ?_;rintro e w1 ⟨v1,rfl,⟨S,rfl,hS,hN⟩,hb1⟩);have hb0:Below w.heap.size w w1:=((Below.refl w.heap.size w).alloc (Lf _) _).trans (hb1.mono (by simp));have hSl:=hN.lt;simp only[World.size_alloc] at hS;have hG0:OwnG w1.heap.size w1 w.heap.size (Vc g 0 0):=by
  have:=(OwnG.made w g.length w1.heap.size (by omega)).below hb1
  rwa [Zky]
 have hN0:=hid hN;clear hno hmk hb1 hN;go_wp2;go_loopw [14] (fun s8 wr=>∃ k:Nat,k<=g.length/\s8=.int .i64 k/\Hid (Below w.heap.size w wr/\OwnG w1.heap.size wr w.heap.size (Vc g k 0)/\Betw (w.heap.size+1) w1.heap.size w1 wr/\w1.heap.size<=wr.heap.size)) (fun s8 _=>g.length-(intOf s8).toNat)
 case atStart=>exact⟨0,Ln _,rfl,hb0,hG0,fun _ _ _=>rfl,Lf _⟩
 case round=>
  obtain⟨k,hkl,rfl,hI⟩:=hrel;clear hb0 hG0
  by_cases hl:k<g.length
  ·have hx:g[k]?=some g[k]:=Ld hl;generalize g[k]=r at hx;have hrow:=Zpf hx;have hrl:=hok.rowLen (Ll hx);obtain⟨v1,c1,_,ho1⟩:=hN0.out.read hx;obtain⟨A1,d1,rfl,_,_,_,hA1⟩:=Z5 ho1;have c1':=hI.out.2.2.1.cell (by omega) hSl c1;obtain⟨wo,hwo⟩:∃ wo:World,wo=wr:=⟨_,rfl⟩
   rw[<-hwo] at hI c1' ⊢;have Hx:=hid hx;have Ho1:=hid ho1;have Hrow:=hid hrow;clear hwo hx c1 ho1 hA1 hrow;go_wp2;clear c1';go_loopw [21] (fun s8 wr=>∃ j:Nat,j<=r.length/\s8=.int .i64 j/\Hid (Below w.heap.size w wr/\OwnG w1.heap.size wr w.heap.size (Vc g k j)/\Betw (w.heap.size+1) w1.heap.size w1 wr/\w1.heap.size<=wr.heap.size)) (fun s8 _=>r.length-(intOf s8).toNat)
   case atStart=>exact⟨0,Ln _,rfl,hI.out⟩
   case round=>
    obtain⟨j,hjl,rfl,hJ⟩:=hrel
    by_cases hl2:j<r.length
    ·have hy:r[j]?=some r[j]:=Ld hl2;generalize r[j]=y at hy;have hyl:y<g.length:=hok.lt r (Ll Hx.out) y (Ll hy);obtain⟨b,rfl,hb1,hb2,hcy⟩:=Jc Ho1.out hy;obtain⟨hb,hG,hB2,hsz⟩:=hJ.out;have hcy':=hB2.cell (by omega) hb2 hcy;obtain⟨l,hl3,hll,hput⟩:=Znm (g:=g) (i:=k) (j:=j) (k:=y) (by rw[Hrow.out];exact hok.up r (Ll Hx.out)) (by rw[Hrow.out];exact hy) hyl;obtain⟨v2,c2,f2,ho2⟩:=hG.read hl3;obtain⟨A2,d2,rfl,_,_,_,hA2⟩:=Z5 ho2;have Hl3:=hid hl3;have Hput:=hid hput;have HG:=hid hG;have HB2:=hid hB2;have Hb:=hid hb;have Hc2:=hid c2;have hlt0:=hG.lt;have hne:w.heap.size≠wr.heap.size:=by omega
     have c3:(wr.alloc (.cells #[.int .i64 k] 3)).cell? ⟨wr.heap.size,0,none⟩=some (.int .i64 k):=by simp
     have hnb:some w.heap.size≠(Value.slice A2 l.length d2).ownBlock:=fun e=>by have:=(ho2.lt _ e.symm).1;omega
     have Hf2:=hid f2;have Hho:=hid (ho2.alloc (.cells #[.int .i64 k] 3));clear hy hcy hB2 hl3 hput hG hb hJ hA2;go_wp2_with (refine X2 rfl _ _ rfl w1.heap.size _ l rfl Hho.out wr.heap.size k rfl c3 (by omega) (by simp;omega) ?_;intro G cap w2 ho3 hg3 hor;have c4:w2.cell? ⟨w.heap.size,y,none⟩=some (.slice A2 l.length d2):=hg3.cell ((World.cell?_alloc_lt wr _ _ (by simp;omega)).trans Hc2.out) hnb;have f4:w2.frozen? ⟨w.heap.size,y,none⟩=false:=(World.frozen?_of_block (hg3.block _ (by simp;omega) hnb)).trans ((World.frozen?_of_block (Below.heap_alloc wr _ _ (by simp;omega))).trans Hf2.out));have hgw:wr.grownBy w2 (Value.slice A2 l.length d2).ownBlock:=Zb (Lc wr _ _) hg3;obtain⟨hP,hPg⟩:=HG.out.put Hl3.out Hc2.out hgw ho3 (hor.elim (fun e=>.inl e.symm) fun e=>.inr fun b hb=>by simp[Value.ownBlock] at hb;subst hb;subst e;simp) rfl;rw[Hput.out] at hP;have hsz2:=hgw.size;go_roundw
     case rel=>
      refine⟨j+1,by omega,by go_num,?_,?_,?_,?_⟩
      ·exact (Z1 (B:=w.heap.size) Hb.out hgw (by omega) (fun r e=>by have:=(Hho.out.lt r e).1;omega)).setCell (by simp) _
      ·simpa using hP
      ·exact (HB2.out.grown hgw hsz (fun r e=>.inr (Hho.out.lt r e).1)).grown hPg (by omega) (fun r e=>by cases e;left;omega)
      ·simp[World.setCell];omega
     case measure=>simp[intOf];omega
    ·have HJ:=hid (show Below w.heap.size w wr/\OwnG w1.heap.size wr w.heap.size (Vc g (k+1) 0)/\Betw (w.heap.size+1) w1.heap.size w1 wr/\w1.heap.size<=wr.heap.size by
      have:=hJ.out
      rw[Zkx g k j (by rw[Hrow.out];exact hl2)] at this
      exact this)
     clear hJ;go_wp2;go_roundw
     case rel=>exact⟨k+1,by omega,by go_num,HJ.out⟩
     case measure=>simp[intOf];omega
  ·have hG2:OwnG w1.heap.size wr w.heap.size (Xx g):=by
    have:=hI.out.2.1
    rwa [Znl g k (by omega)] at this
   have HF:=hid hG2;clear hG2;go_wp2;go_ret;exact⟨_,_,rfl,Lf _,HF.out,hI.out.1⟩
theorem OwnG.keptLow {base S r:Nat} {w w':World} {L:List (List Nat)} (h:OwnG base w S L) (hg:w.grownBy w' (some r)) (hr:r<S):OwnG base w' S L:=by
 obtain⟨vs,h1,hh,h2,h3,h4⟩:=h
 exact⟨vs,h1,(hg.block S (Ze hh) (by simp;omega)).trans hh,h2,fun j v l a b=>(h3 j v l a b).kept hg (by
  cases e:v.ownBlock with
  |none=>exact .inl rfl
  |some x=>exact .inr (by have:=((h3 j v l a b).lt x e).1;simp;omega)),h4⟩
end
def Yo (bs:List GBlk) (i:Nat):Str:=((bs[i]?).map (·.label)).getD []
def atm (bs:List GBlk) (is:List Nat):List (Str×Nat):=is.foldl (fun m i=>Yz m (Yo bs i) i) []
theorem Zkw (bs:List GBlk) (is:List Nat) (i:Nat):atm bs (is++[i])=Yz (atm bs is) (Yo bs i) i:=by simp[atm,List.foldl_append]
def Yd (bs:List GBlk) (s:Str):Option Nat:=(List.range bs.length).find? fun i=>s == Yo bs i
theorem Ztu (bs:List GBlk) (s:Str) (n:Nat):∀ k,k<=n->Z6 (atm bs (Vz n k)) s=(List.range' (n-k) k).find? fun i=>s == Yo bs i:=by
 intro k
 induction k with
 |zero=>intro _;simp[Vz,atm,Z6]
 |succ k ih=>
  intro hk;rw[Zdo,Zkw,Xj,ih (by omega),show n-(k+1)=n-1-k by omega];have e:List.range' (n-1-k) (k+1)=(n-1-k)::List.range' (n-k) k:=by
   rw[List.range'_succ,show n-1-k+1=n-k by omega]
  rw[e,List.find?_cons]
  cases s == Yo bs (n-1-k)<;>rfl
theorem Zpx (bs:List GBlk) (s:Str):Z6 (atm bs (Vz bs.length bs.length)) s=Yd bs s:=by
 rw[Ztu bs s _ _ (Nat.le_refl _),Nat.sub_self,Yd,List.range_eq_range']
theorem V9 {bs:List GBlk} {s:Str} {i:Nat} (h:Yd bs s=some i):i<bs.length:=by
 have:=List.mem_of_find?_eq_some h;simpa using this
theorem Zax {bs:List GBlk} {s:Str} {i:Nat} (h:Yd bs s=some i):Yo bs i=s:=by
 have:=List.find?_some h;exact (eq_of_beq this).symm
theorem Zmd {bs:List GBlk} {b:GBlk} (h:b∈bs):∃ i,Yd bs b.label=some i:=by
 obtain⟨k,hk,e⟩:=List.mem_iff_getElem.1 h;have h1:Yo bs k=b.label:=by simp[Yo,List.getElem?_eq_getElem hk,e]
 cases hf:Yd bs b.label with
 |some i=>exact⟨i,rfl⟩
 |none=>
  unfold Yd at hf;rw[List.find?_eq_none] at hf;exact absurd (by simp[h1]) (hf k (by simpa using hk))
def Y7 (b:GBlk):GIns:=b.code.getLastD ⟨0,[],[],[],0,[],[],[]⟩
def J0 (bs:List GBlk) (b:GBlk):List Nat:=if (Y7 b).op=14 then [] else (Y7 b).lb9.map fun s=>(Yd bs s).getD 0
def Zv (bs:List GBlk):Gph:=bs.map fun b=>Zfy (J0 bs b)
structure OfOk (bs:List GBlk):Prop where
 len:bs.length<=65536
 code:∀ b∈bs,b.code≠[]
 op:∀ b∈bs,(Y7 b).op=12\/(Y7 b).op=13\/(Y7 b).op=14
 lab:∀ b∈bs,(Y7 b).op≠14->∀ s∈(Y7 b).lb9,∃ i,Yd bs s=some i
theorem Zr (bs:List GBlk):(Zv bs).length=bs.length:=by simp[Zv]
theorem raw_lt {bs:List GBlk} (h:OfOk bs) {b:GBlk} (hb:b∈bs):∀ k∈J0 bs b,k<bs.length:=by
 intro k hk;unfold J0 at hk
 split at hk
 ·cases hk
 ·rename_i hne
  obtain⟨s,hs,rfl⟩:=List.mem_map.1 hk;obtain⟨i,hi⟩:=h.lab b hb hne s hs;rw[hi];exact V9 hi
theorem Zcj {bs:List GBlk} (h:OfOk bs):GOk (Zv bs) where
 len:=by rw[Zr];exact h.len
 up:=fun r hr=>by obtain⟨b,_,rfl⟩:=List.mem_map.1 hr;exact Zup _
 lt:=fun r hr k hk=>by
  obtain⟨b,hb,rfl⟩:=List.mem_map.1 hr;rw[Zr];exact raw_lt h hb k (mem_formN.1 hk)
def Qe (p:Int×Nat):Value:=.agg #[.int .i64 p.1,.int .i64 p.2]
abbrev Defs:=List (Str×(Int×Nat))
def Uc (ps:List Str):Defs:=ps.foldl (fun m s=>Yz m s (-1,0)) []
def X5 (b:Nat) (code:List GIns) (m:Defs):Defs:=code.zipIdx.foldl (fun m p=>Yz m p.1.dst ((b:Int),p.2)) m
def Vw (bs:List GBlk) (m:Defs):Defs:=bs.zipIdx.foldl (fun m p=>X5 p.2 p.1.code m) m
def Kt (f:GFun):Defs:=Vw f.bk9 (Uc f.params)
theorem Zdf {α:Type} {l:List α} {k:Nat} {x:α} (h:l[k]?=some x):l.take (k+1)=l.take k++[x]:=by rw[List.take_add_one,h];rfl
theorem Znd {α:Type} {l:List α} {k:Nat} {x:α} (h:l[k]?=some x):(l.take k).length=k:=by
 have:=(Le h).1;rw[List.length_take];omega
theorem Zdm {ps:List Str} {k:Nat} {s:Str} (h:ps[k]?=some s):Uc (ps.take (k+1))=Yz (Uc (ps.take k)) s (-1,0):=by
 rw[Zdf h,Uc,List.foldl_append];rfl
theorem K8 {b:Nat} {l:List GIns} {m:Defs} {k:Nat} {x:GIns} (h:l[k]?=some x):X5 b (l.take (k+1)) m=Yz (X5 b (l.take k) m) x.dst ((b:Int),k):=by
 rw[Zdf h,X5,List.zipIdx_append,List.foldl_append,Znd h];simp[X5]
theorem K7 {bs:List GBlk} {m:Defs} {k:Nat} {b:GBlk} (h:bs[k]?=some b):Vw (bs.take (k+1)) m=X5 k b.code (Vw (bs.take k) m):=by
 rw[Zdf h,Vw,List.zipIdx_append,List.foldl_append,Znd h];simp[Vw]

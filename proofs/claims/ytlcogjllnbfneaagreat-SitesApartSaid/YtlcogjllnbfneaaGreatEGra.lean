/- The contract of graph. Conditions in it. -/
import Derived.Test.YtlcogjllnbfneaaGreatESli
import Derived.Deep.LoopGhost
import Derived.RegionTactic
set_option maxHeartbeats 2000000
set_option maxRecDepth 100000
set_option linter.all false
namespace Go.Proofs.YtlcogjllnbfneaaGreat
open Lib(hid)
section
open Go.RowKit
structure GOk (g:List (List Nat)):Prop where
 len:g.length<=65536
 up:∀ r∈g,r.Pairwise (·<·)
 lt:∀ r∈g,∀ k∈r,k<g.length
theorem Zes {l:List Nat} {n:Nat} (h:l.Pairwise (·<·)) (hn:∀ k∈l,k<n):l.length<=n:=by
 have hnd:l.Nodup:=h.imp (fun h=>Nat.ne_of_lt h);have:=hnd.length_le_of_subset (l₂:=List.range n) (fun x hx=>List.mem_range.2 (hn x hx));simpa using this
theorem GOk.rowLen {g:List (List Nat)} (h:GOk g) {r:List Nat} (hr:r∈g):r.length<=65536:=
 Nat.le_trans (Zes (h.up r hr) (h.lt r hr)) h.len
theorem Zem (v:Value) (l:List Nat) (g:Nat) (lb:Array Value) (w:World) (B:Nat) (hB:B<=w.heap.size)
  (h:NatsAt w B v l) (eg:∀ args w,(callFunc g args).run Tryz.prog w=.ok (.enter g args) w)
  (hp:∀ (x:Nat) (W:World),Below w.heap.size w W->x∈l->Calls Tryz.prog g (#[.int .i64 x]++lb) W fun e w'=>e=.returned (.bool false)/\Below w.heap.size w w'):
  Calls Tryz.prog 214 #[v,.func (.func g) #[] lb] w fun e w'=>e=.returned v/\Below w.heap.size w w':=by
 have hc:=Kx v l g lb w B (fun _=>false) hB h eg hp;rw[Zgc (fun _ _=>rfl)] at hc;obtain⟨A,c,rfl,hm,hlc,hcm,hA⟩:=h.open_;clear h hp hA;go_enter Tryz.func214,Tryz.ntmps214;go_wp2_with (go_at_call 182;refine hc.mono ?_;rintro e w' ⟨rfl,hb'⟩);go_ret;exact⟨rfl,hb'⟩
theorem norm_1 (k:Nat) (A:Option Addr) (n c gb:Nat) (w:World) (hk:k<n) (hn:n<=65536) (hc:w.cell? ⟨gb,0,none⟩=some (.slice A n c)):
  Calls Tryz.prog 216 #[.int .i64 k,.pointer (some ⟨gb,0,none⟩)] w fun e w'=>e=.returned (.bool false)/\w=w':=by
 have h1:decide ((k:Int)<0)=false:=by simp
 have h2:decide ((k:Int)>=n)=false:=by simp;omega
 have h3:decide ((n:Int)<=k)=false:=by simp;omega
 have h4:decide (n<=k)=false:=by simp;omega
 go_enter Tryz.func216,Tryz.ntmps216;go_wp2;go_ret;exact⟨rfl,rfl⟩
theorem Zhp:∀ args w,(callFunc 216 args).run Tryz.prog w=.ok (.enter 216 args) w:=enters_of Tryz.func216 (by kernel_rfl) rfl
theorem Zmm (v:Value) (g:List (List Nat)) (B:Nat) (w:World) (hB:B<=w.heap.size) (h:GraphAt w B v g) (hok:GOk g):
  Calls Tryz.prog 180 #[v] w fun e w'=>∃ v',e=.returned v'/\(∃ S,v'=.slice (some ⟨S,0,none⟩) g.length g.length/\w.heap.size<=S/\OwnG (S+1) w' S g)/\Below w.heap.size w w':=by
 obtain⟨A,c,rfl,hm,hlc,hcm,hA⟩:=h.open_;have hlen:=hok.len;clear h;go_enter Tryz.func180,Tryz.ntmps180;have hmk:=Zbd g.length hlen;go_wp2;obtain⟨wo,hwo⟩:∃ wo:World,wo=(w.alloc (.cells #[.slice A g.length c] 141)).alloc (.cells (Array.replicate g.length (.slice none 0 0)) 84):=⟨_,rfl⟩
 have hbo:Below w.heap.size w wo:=by rw[hwo];exact ((Below.refl w.heap.size w).alloc (Lf _) _).alloc (by simp) _
 have hgo:OwnG (w.heap.size+1+1) wo (w.heap.size+1) (List.replicate g.length []):=by
  have:=OwnG.made (w.alloc (.cells #[.slice A g.length c] 141)) g.length (w.heap.size+1+1) (by simp);rw[hwo];simpa using this
 have hco:wo.cell? ⟨w.heap.size,0,none⟩=some (.slice A g.length c):=by rw[hwo];simp
 rw[<-hwo];clear hwo hmk;go_loopw [12] (fun s8 wr=>∃ k:Nat,k<=g.length/\s8=.int .i64 k/\Hid (Below w.heap.size w wr/\wr.cell? ⟨w.heap.size,0,none⟩=some (.slice A g.length c)/\OwnG (w.heap.size+1+1) wr (w.heap.size+1) (g.take k++List.replicate (g.length-k) []))) (fun s8 _=>g.length-(intOf s8).toNat)
 case atStart=>exact⟨0,Ln _,rfl,hbo,hco,by simpa using hgo⟩
 case round=>
  obtain⟨k,hkl,rfl,hI⟩:=hrel;obtain⟨hb,hcb,hG⟩:=hI.out;have hsz:=hG.lt;clear hbo hgo hco
  by_cases hl:k<g.length
  ·obtain⟨r,b,off,hx,rfl,hbB,v1,e0,hr⟩:=(hA.below rowR.keeps hb hB).at1 hl;have hmem:r∈g:=Ll hx;have hrl:=hok.rowLen hmem;obtain⟨v0,c1,f1,ho1⟩:=hG.read (Jg (z:=[]) hl);have hcl:=Zhk hr (by omega);obtain⟨A1,c2,rfl,m1,_,_,_⟩:=hr.open_;have Hx:=hid hx;have HI:=hid hI;have hcb2:=hcb;clear hx hr hI hcb;go_wp2_with (go_at_call 215;refine hcl.mono ?_;rintro e w1 ⟨v1,rfl,ho,hb1⟩);have hcw:=(hb1.cell (p:=⟨w.heap.size,0,none⟩) (by simp;omega)).trans hcb2;have hcd:=Zem v1 r 216 #[.pointer (some ⟨w.heap.size,0,none⟩)] w1 w1.heap.size (Lf _) (Ju ho (fun x hx=>by have:=hok.lt r hmem x hx;omega)) Zhp (fun x W hW hx=>(norm_1 x _ g.length c w.heap.size W (hok.lt r hmem x hx) hlen ((hW.cell (p:=⟨w.heap.size,0,none⟩) (by have:=hb1.size;simp;omega)).trans hcw)).mono fun e w' h=>⟨h.1,h.2▸hW⟩);clear hcw hcb2;refine hcd.mono ?_;rintro e w2 ⟨rfl,hb2⟩;go_wp2_with fail;have hg12:=Zj hb2;have ho2:=ho.kept hg12 (by cases v1.ownBlock<;>simp);refine (Qn ho2 (by omega)).mono ?_;rintro e w3 ⟨rfl,ho3,hg3⟩;rw[Zpn ((hok.up r hmem).imp Nat.le_of_lt)] at ho3;go_wp2_with fail;refine (Vv ho3).mono ?_;rintro e w4 ⟨v2,rfl,ho4,hg4,hv2⟩;rw[Znt (hok.up r hmem)] at ho4;obtain⟨A5,c5,rfl,_,_,_,_⟩:=Z5 ho4;have hgr:wr.grownBy w4 none:=by
    have h1:=Zj hb1;have hlt:=fun b e=>(ho.lt b e).1
    exact Y3 (Y3 (Zb h1 hg12) hg3 hlt) hg4 hlt
   have hsz4:=hgr.size;obtain⟨hP,hPg⟩:=hG.put (Jg (z:=[]) hl) c1 (Qr hgr _) (Zcy ho4 (by omega)) (.inr fun b e=>(ho.lt b (hv2▸e)).1) (Zvs ho4);have hc4:w4.cell? ⟨w.heap.size+1,k,none⟩=some v0:=(Lj (hgr.block _ (by simpa using hsz) (by simp))).trans c1;have hf4:w4.frozen? ⟨w.heap.size+1,k,none⟩=false:=(World.frozen?_of_block (hgr.block _ (by simpa using hsz) (by simp))).trans f1;have hbx:Below w.heap.size w w4:=hb.trans ((Zk hgr).mono (by omega))
   have HI:=hid (show Below w.heap.size w (w4.setCell ⟨w.heap.size+1,k,none⟩ (.slice A5 r.length c5))/\(w4.setCell ⟨w.heap.size+1,k,none⟩ (.slice A5 r.length c5)).cell? ⟨w.heap.size,0,none⟩=some (.slice (some ⟨b,off,none⟩) g.length c)/\OwnG (w.heap.size+1+1) (w4.setCell ⟨w.heap.size+1,k,none⟩ (.slice A5 r.length c5)) (w.heap.size+1) (g.take (k+1)++List.replicate (g.length-(k+1)) []) from
                     ⟨hbx.setCell (by simp) _,by
                      have h1:=HI.out.2.1
                      have h2:w4.cell? ⟨w.heap.size,0,none⟩=some (.slice (some ⟨b,off,none⟩) g.length c):=(Lj (hgr.block _ (by simp;omega) (by simp))).trans h1
                      rw[<-h2]
                      exact Lj (Below.heap_setCell w4 _ _ _ (by simp)),by rw[Qp Hx.out] at hP;exact hP⟩)
   clear hP hPg hgr hsz4 hbx hG c1 f1 ho ho2 ho3 ho4 hg3 hg4 hv2 hb1 hb2 hg12 hcd hcl ho1 hb e0;go_wp2_with fail;go_roundw
   case rel=>exact⟨k+1,by omega,by go_num,HI.out⟩
   case measure=>simp[intOf];omega
  ·have hG2:OwnG (w.heap.size+1+1) wr (w.heap.size+1) g:=by
    have:k=g.length:=by omega
    subst this;simpa using hG
   have HF:=hid hG2;have HB:=hid hb;clear hG hG2 hcb hI hb;go_wp2;go_ret;exact⟨_,rfl,⟨_,rfl,by omega,HF.out⟩,HB.out⟩
end
abbrev Gph:=List (List Nat)
def row (g:Gph) (i:Nat):List Nat:=(g[i]?).getD []
theorem Zpf {g:Gph} {i:Nat} {r:List Nat} (h:g[i]?=some r):row g i=r:=by simp[row,h]
def Vc (g:Gph) (i j:Nat):Gph:=(List.range g.length).map fun k=>(List.range i).filter (fun i'=>(row g i').contains k)++(if ((row g i).take j).contains k then [i] else [])
def Xx (g:Gph):Gph:=(List.range g.length).map fun k=>(List.range g.length).filter (fun i'=>(row g i').contains k)
theorem Zky (g:Gph):Vc g 0 0=List.replicate g.length []:=by
 apply List.ext_getElem<;>simp[Vc]
theorem Zkx (g:Gph) (i j:Nat) (hj:¬ j<(row g i).length):Vc g i j=Vc g (i+1) 0:=by
 unfold Vc;refine List.map_congr_left fun k _=>?_
 rw[List.range_succ,List.filter_append,List.take_of_length_le (by omega)];simp[List.filter_cons]
theorem Znl (g:Gph) (i:Nat) (hi:i=g.length):Vc g i 0=Xx g:=by
 subst hi;simp[Vc,Xx]
theorem Znm {g:Gph} {i j k:Nat} (hup:(row g i).Pairwise (·<·)) (hk:(row g i)[j]?=some k) (hlt:k<g.length):
  ∃ l,(Vc g i j)[k]?=some l/\l.length<=i/\(Vc g i j).set k (l++[i])=Vc g i (j+1):=by
 have hnot:k∉(row g i).take j:=by
  intro h;obtain⟨m,hm,e⟩:=List.mem_iff_getElem.1 h;rw[List.getElem_take] at e;have hm':m<j/\m<(row g i).length:=by rw[List.length_take] at hm;omega
  obtain⟨hj,e2⟩:=Le hk;have:=List.pairwise_iff_getElem.1 hup m j hm'.2 hj hm'.1;omega
 have hs:(row g i).take (j+1)=(row g i).take j++[k]:=by rw[List.take_add_one,hk];rfl
 refine⟨(List.range i).filter (fun i'=>(row g i').contains k),?_,?_,?_⟩
 ·simp[Vc,List.getElem?_map,List.getElem?_range hlt,hnot]
 ·have:=List.length_filter_le (fun i'=>(row g i').contains k) (List.range i);simpa using this
 ·apply List.ext_getElem?
  intro m
  by_cases e:k=m
  ·subst e;rw[List.getElem?_set_self (by simp[Vc,hlt])];simp[Vc,List.getElem?_map,List.getElem?_range hlt,hs]
  ·rw[List.getElem?_set_ne e];simp only[Vc,List.getElem?_map,hs];have:∀ x:Nat,(List.range g.length)[m]?=some x->x=m:=by
    intro x hx;obtain⟨hm,e3⟩:=Le hx;simp at e3;exact e3.symm
   cases hx:(List.range g.length)[m]? with
   |none=>rfl
   |some x=>
    have:=this x hx;subst this;have e':¬ x=k:=fun e4=>e e4.symm
    simp[e']
theorem Ziu {g:Gph} {k i:Nat} (hk:k<g.length):i∈row (Xx g) k↔i<g.length/\k∈row g i:=by
 simp[row,Xx,List.getElem?_map,List.getElem?_range hk]
theorem Xd (g:Gph):(Xx g).length=g.length:=by simp[Xx]
theorem GOk.back (g:Gph) (h:g.length<=65536):GOk (Xx g):=by
 refine⟨by rw[Xd];exact h,fun r hr=>?_,fun r hr k hk=>?_⟩
 ·obtain⟨k,_,rfl⟩:=List.mem_map.1 hr;exact List.pairwise_lt_range.filter _
 ·obtain⟨k',_,rfl⟩:=List.mem_map.1 hr;rw[Xd];simpa using (List.mem_filter.1 hk).1
theorem GOk.row {g:Gph} (h:GOk g) (i:Nat):(row g i).Pairwise (·<·)/\∀ k∈Go.Proofs.YtlcogjllnbfneaaGreat.row g i,k<g.length:=by
 unfold Go.Proofs.YtlcogjllnbfneaaGreat.row
 cases e:g[i]? with
 |none=>simp
 |some r=>exact⟨h.up r (Ll e),h.lt r (Ll e)⟩
inductive Path (g:Gph) (a:Nat):Nat->Prop
 |refl:Path g a a
 |step {b c:Nat}:Path g a b->c∈row g b->Path g a c
def Xa (s:List Bool×List Nat) (k:Nat):List Bool×List Nat:=if s.1[k]?=some false then (s.1.set k true,s.2++[k]) else s
def cf (l:List Bool):Nat:=l.count false
theorem Zhn (s:List Bool×List Nat) (k:Nat):(Xa s k).1.length=s.1.length:=by
 unfold Xa;split<;>simp
theorem Znr {l:List Bool} {k:Nat} (h:l[k]?=some false):cf (l.set k true)+1=cf l:=by
 unfold cf
 induction l generalizing k with
 |nil=>simp at h
 |cons x l ih=>
  cases k with
  |zero=>
   simp only[List.getElem?_cons_zero,Option.some.injEq] at h;subst h;simp
  |succ k=>
   simp only[List.getElem?_cons_succ] at h;have:=ih h;simp only[Li,List.count_cons];omega
theorem Zdp (s:List Bool×List Nat) (k:Nat):2*cf (Xa s k).1+(Xa s k).2.length<=2*cf s.1+s.2.length:=by
 unfold Xa
 split
 ·rename_i h
  have:=Znr h;simp;omega
 ·exact Lf _
theorem U5 {s:List Bool×List Nat} {k i:Nat} (h:s.1[i]?=some true):(Xa s k).1[i]?=some true:=by
 unfold Xa
 split
 ·rename_i hf
  by_cases e:k=i
  ·subst e;rw[h] at hf;cases hf
  ·simpa [List.getElem?_set_ne e] using h
 ·exact h
theorem Jq {s:List Bool×List Nat} {k:Nat} (h:k<s.1.length):(Xa s k).1[k]?=some true:=by
 unfold Xa
 split
 ·simp[h]
 ·rename_i hf
  cases e:s.1[k] with
  |true=>rw[List.getElem?_eq_getElem h,e]
  |false=>exact absurd (by rw[List.getElem?_eq_getElem h,e]) hf
theorem Zfr {s:List Bool×List Nat} {k i:Nat} (h:(Xa s k).1[i]?=some true):s.1[i]?=some true\/(i=k/\k∈(Xa s k).2):=by
 unfold Xa at h ⊢
 split at h
 ·rename_i hf
  by_cases e:k=i
  ·subst e;right;rw[if_pos hf];exact⟨rfl,by simp⟩
  ·left;simpa [List.getElem?_set_ne e] using h
 ·exact .inl h
theorem Zlq {s:List Bool×List Nat} {k i:Nat} (h:i∈s.2):i∈(Xa s k).2:=by
 unfold Xa;split<;>simp[h]
theorem Zju {s:List Bool×List Nat} {k i:Nat} (h:i∈(Xa s k).2):i∈s.2\/i=k:=by
 unfold Xa at h
 split at h
 ·simpa using h
 ·exact .inl h
structure RInv (g:Gph) (fr:List Nat) (s:List Bool×List Nat) (ex:Nat->Prop):Prop where
 len:s.1.length=g.length
 path:∀ k,s.1[k]?=some true->∃ f∈fr,Path g f k
 next:∀ k∈s.2,s.1[k]?=some true
 done:∀ i,s.1[i]?=some true->i∈s.2\/ex i\/∀ k∈row g i,s.1[k]?=some true
theorem RInv.enter {g:Gph} {fr:List Nat} {s:List Bool×List Nat} {ex:Nat->Prop} (h:RInv g fr s ex) {k:Nat} (hk:k<g.length) (hp:∃ f∈fr,Path g f k):RInv g fr (Xa s k) ex where
 len:=by rw[Zhn];exact h.len
 path:=fun i hi=>(Zfr hi).elim (h.path i) fun e=>e.1▸hp
 next:=fun i hi=>(Zju hi).elim (fun hi=>U5 (h.next i hi)) fun e=>by subst e;exact Jq (by rw[h.len];exact hk)
 done:=fun i hi=>(Zfr hi).elim
  (fun hi=>(h.done i hi).elim (fun h1=>.inl (Zlq h1)) fun h1=>.inr (h1.imp id fun h2 k hk=>U5 (h2 k hk)))
  fun e=>.inl (e.1▸e.2)
theorem RInv.start (g:Gph) (fr:List Nat) (n:Nat) (hn:n=g.length):RInv g fr (List.replicate n false,[]) (fun _=>False) where
 len:=by simp[hn]
 path:=fun k hk=>by rw[List.getElem?_replicate] at hk;split at hk<;>cases hk
 next:=fun k hk=>by cases hk
 done:=fun k hk=>by rw[List.getElem?_replicate] at hk;split at hk<;>cases hk
theorem RInv.pop {g:Gph} {fr:List Nat} {out:List Bool} {next:List Nat} {i:Nat} (h:RInv g fr (out,next++[i]) (fun _=>False)):RInv g fr (out,next) (fun x=>x=i)/\out[i]?=some true:=
 ⟨⟨h.len,h.path,fun k hk=>h.next k (by simp[show k∈next from hk]),fun x hx=>by
  rcases h.done x hx with h1|h1|h1
  ·simp only[List.mem_append,List.mem_singleton] at h1
   exact h1.imp id .inl
  ·exact h1.elim
  ·exact .inr (.inr h1)⟩,h.next i (by simp)⟩
theorem RInv.over {g:Gph} {fr:List Nat} {s:List Bool×List Nat} {i:Nat} (h:RInv g fr s (fun x=>x=i)) (hr:∀ k∈row g i,s.1[k]?=some true):RInv g fr s (fun _=>False):=
 ⟨h.len,h.path,h.next,fun x hx=>(h.done x hx).imp id fun h1=>h1.elim (fun e=>.inr (e▸hr)) .inr⟩
theorem RInv.all {g:Gph} {fr:List Nat} {out:List Bool} (h:RInv g fr (out,[]) (fun _=>False)) (hf:∀ f∈fr,out[f]?=some true) (k:Nat):out[k]?=some true↔∃ f∈fr,Path g f k:=by
 refine⟨h.path k,?_⟩;rintro⟨f,hm,hp⟩
 induction hp with
 |refl=>exact hf f hm
 |step hp hr ih=>exact ((h.done _ ih).resolve_left (by simp)).resolve_left id _ hr
abbrev Bef (L:List Nat) (x y:Nat):Prop:=[x,y].Sublist L
inductive DPath (g:Gph) (L:List Nat) (a:Nat):Nat->Prop
 |refl:DPath g L a a
 |step {b c:Nat}:DPath g L a b->c∈row g b->Bef L c b->DPath g L a c
theorem DPath.mono {g:Gph} {L L':List Nat} (hL:L.Sublist L') {a b:Nat} (h:DPath g L a b):DPath g L' a b:=by
 induction h with
 |refl=>exact .refl
 |step _ h1 h2 ih=>exact .step ih h1 (h2.trans hL)
theorem DPath.trans {g:Gph} {L:List Nat} {a b c:Nat} (h:DPath g L a b) (k:DPath g L b c):DPath g L a c:=by
 induction k with
 |refl=>exact h
 |step _ h1 h2 ih=>exact .step ih h1 h2
structure PInv (g:Gph) (root:Nat) (seen:List Bool) (way left:List Nat):Prop where
 len:seen.length=g.length
 nodup:(left++way.reverse).Nodup
 seen:∀ x,seen[x]?=some true↔x∈left++way.reverse
 path:∀ x∈left++way.reverse,Path g root x
 last:(left++way.reverse).getLast?=some root
 chain:∀ l1 l2 a b,way=l1++a::b::l2->b∈row g a
 done:∀ u∈left,∀ v∈row g u,v∈left++way.reverse/\(Bef (left++way.reverse) v u\/DPath g (left++way.reverse) v u)
 pred:∀ x∈left++way.reverse,x≠root->∃ q,x∈row g q/\Bef (left++way.reverse) x q
theorem Zfi {l1 l2:List Nat} {x y:Nat} (hx:x∈l1) (hy:y∈l2):Bef (l1++l2) x y:=by
 have h1:[x].Sublist l1:=List.singleton_sublist.2 hx;have h2:[y].Sublist l2:=List.singleton_sublist.2 hy;exact h1.append h2
theorem PInv.start (g:Gph) (root:Nat) (h:root<g.length):PInv g root ((List.replicate g.length false).set root true) [root] [] where
 len:=by simp
 nodup:=by simp
 seen:=fun x=>by
  by_cases e:root=x
  ·subst e;simp[h]
  ·have e':¬ x=root:=fun e2=>e e2.symm
   simp[List.getElem?_set_ne e,List.getElem?_replicate,e']
 path:=fun x hx=>by simp at hx;subst hx;exact .refl
 last:=by simp
 chain:=fun l1 l2 a b e=>by
  have:=congrArg List.length e;simp at this;omega
 done:=fun u hu=>by cases hu
 pred:=fun x hx hne=>by simp at hx;exact absurd hx hne
theorem PInv.along {g:Gph} {root:Nat} {seen:List Bool} {way left:List Nat} (h:PInv g root seen way left):∀ (l2 l1:List Nat) (a i:Nat),way=l1++a::(l2++[i])->DPath g (left++way.reverse) a i:=by
 have step:∀ l1 l2 a b,way=l1++a::b::l2->b∈row g a/\Bef (left++way.reverse) b a:=fun l1 l2 a b e=>by
  refine⟨h.chain l1 l2 a b e,?_⟩;have:[b,a].Sublist way.reverse:=by
   rw[e];simp only[List.reverse_append,List.reverse_cons,List.append_assoc];refine List.Sublist.trans ?_ (List.sublist_append_right _ _);exact (List.sublist_append_left [b,a] l1.reverse)
  exact this.trans (List.sublist_append_right _ _)
 have key:∀ (l2 l1 l3:List Nat) (a b:Nat),way=l1++a::(l2++b::l3)->DPath g (left++way.reverse) a b:=by
  intro l2
  induction l2 with
  |nil=>
   intro l1 l3 a b e;have:=step l1 l3 a b e;exact .step .refl this.1 this.2
  |cons c l2 ih=>
   intro l1 l3 a b e;have h1:=step l1 (l2++b::l3) a c (by rw[e];simp);have h2:=ih (l1++[a]) l3 c b (by rw[e];simp);exact DPath.trans (.step .refl h1.1 h1.2) h2
 intro l2 l1 a i e;exact key l2 l1 [] a i e
theorem PInv.pop {g:Gph} {root:Nat} {seen:List Bool} {way left:List Nat} {i:Nat} (h:PInv g root seen (way++[i]) left) (hn:∀ k∈row g i,seen[k]?=some true):PInv g root seen way (left++[i]):=by
 have e:left++(way++[i]).reverse=left++[i]++way.reverse:=by simp
 refine⟨h.len,e▸h.nodup,e▸h.seen,e▸h.path,e▸h.last,fun l1 l2 a b e2=>h.chain l1 (l2++[i]) a b (by rw[e2];simp),fun u hu v hv=>?_,e▸h.pred⟩;rw[<-e]
 rcases List.mem_append.1 hu with hu|hu
 ·exact h.done u hu v hv
 ·have hu:u=i:=by simpa using hu
  subst hu;have hs:=(h.seen v).1 (hn v hv);refine⟨hs,?_⟩
  rcases List.mem_append.1 hs with hs|hs
  ·exact .inl (Zfi hs (by simp))
  ·right;rw[List.mem_reverse] at hs
   rcases List.mem_append.1 hs with hs|hs
   ·obtain⟨l1,l2,e3⟩:=List.append_of_mem hs;exact h.along l2 l1 v u (by rw[e3];simp)
   ·have:v=u:=by simpa using hs
    subst this;exact .refl
theorem PInv.push {g:Gph} {root:Nat} {seen:List Bool} {way left:List Nat} {i k:Nat} (h:PInv g root seen (way++[i]) left) (hk:k∈row g i) (hf:seen[k]?=some false):PInv g root (seen.set k true) (way++[i]++[k]) left:=by
 have hnot:k∉left++(way++[i]).reverse:=fun hm=>by
  have:=(h.seen k).2 hm;rw[hf] at this
  cases this
 have e:left++(way++[i]++[k]).reverse=left++([k]++(way++[i]).reverse):=by simp
 have hsub:(left++(way++[i]).reverse).Sublist (left++(way++[i]++[k]).reverse):=by
  rw[e];exact List.Sublist.append (List.Sublist.refl _) (List.sublist_append_right _ _)
 have hmem:∀ x,x∈left++(way++[i]++[k]).reverse↔x∈left++(way++[i]).reverse\/x=k:=fun x=>by
  rw[e];simp only[List.mem_append,List.mem_singleton];constructor
  ·rintro (h|h|h)
   ·exact .inl (.inl h)
   ·exact .inr h
   ·exact .inl (.inr h)
  ·rintro ((h|h)|h)
   ·exact .inl h
   ·exact .inr (.inr h)
   ·exact .inr (.inl h)
 have hbk:Bef (left++(way++[i]++[k]).reverse) k i:=by
  rw[e];refine List.Sublist.trans ?_ (List.sublist_append_right _ _);exact Zfi (by simp) (by simp)
 refine⟨by simpa using h.len,?_,fun x=>?_,fun x hx=>?_,?_,fun l1 l2 a b e2=>?_,fun u hu v hv=>?_,fun x hx hne=>?_⟩
 ·rw[e];have h1:=h.nodup;rw[List.nodup_append] at h1 ⊢;refine⟨h1.1,?_,?_⟩
  ·rw[List.singleton_append,List.nodup_cons];exact⟨fun hm=>hnot (List.mem_append.2 (.inr hm)),h1.2.1⟩
  ·intro a ha b hb;rw[List.singleton_append,List.mem_cons] at hb
   rcases hb with rfl|hb
   ·intro e2;subst e2;exact hnot (List.mem_append.2 (.inl ha))
   ·exact h1.2.2 a ha b hb
 ·rw[hmem,<-h.seen];have hkl:=(Le hf).1
  by_cases e2:k=x
  ·subst e2;simp[hkl]
  ·have e3:¬ x=k:=fun e4=>e2 e4.symm
   simp[List.getElem?_set_ne e2,e3]
 ·rcases (hmem x).1 hx with hx|rfl
  ·exact h.path x hx
  ·exact (h.path i (by simp)).step hk
 ·have:=h.last;rw[e,List.getLast?_append];rw[List.getLast?_append] at this;have h2:((way++[i]).reverse).getLast?≠none:=by simp
  cases h3:((way++[i]).reverse).getLast? with
  |none=>exact absurd h3 h2
  |some y=>
   rw[h3] at this;rw[List.getLast?_append,h3];simpa using this
 ·rcases List.eq_nil_or_concat l2 with rfl|⟨l3,c,e4⟩
  ·have e5:way++[i]++[k]=(l1++[a])++[b]:=by rw[e2];simp
   obtain⟨e6,e7⟩:=List.append_inj' e5 rfl;obtain⟨_,e8⟩:=List.append_inj' e6 rfl;injection e7 with e7 _
   injection e8 with e8 _
   subst e7;subst e8;exact hk
  ·rw[List.concat_eq_append] at e4;subst e4;have e5:way++[i]++[k]=(l1++a::b::l3)++[c]:=by rw[e2];simp
   obtain⟨e6,_⟩:=List.append_inj' e5 rfl;exact h.chain l1 l3 a b e6
 ·obtain⟨h1,h2⟩:=h.done u hu v hv;exact⟨(hmem v).2 (.inl h1),h2.imp (fun h=>h.trans hsub) fun h=>h.mono hsub⟩
 ·rcases (hmem x).1 hx with hx|rfl
  ·obtain⟨q,h1,h2⟩:=h.pred x hx hne;exact⟨q,h1,h2.trans hsub⟩
  ·exact⟨i,hk,hbk⟩
structure PostOk (g:Gph) (root:Nat) (order:List Nat):Prop where
 nodup:order.Nodup
 mem:∀ x,x∈order↔Path g root x
 head:∃ rest,order=root::rest
 pred:∀ x∈order,x≠root->∃ q,x∈row g q/\Bef order q x
 back:∀ u∈order,∀ v∈row g u,Bef order u v\/DPath g order.reverse v u
theorem PInv.over {g:Gph} {root:Nat} {seen:List Bool} {left:List Nat} (h:PInv g root seen [] left):PostOk g root left.reverse:=by
 have e:left++([]:List Nat).reverse=left:=by simp
 have hn:=e▸h.nodup;have hp:=e▸h.path;have hl:=e▸h.last;have hd:=e▸h.done;have hr:=e▸h.pred;refine⟨List.pairwise_reverse.2 (hn.imp fun h=>h.symm),fun x=>?_,?_,fun x hx hne=>?_,fun u hu v hv=>?_⟩
 ·rw[List.mem_reverse];refine⟨hp x,fun hx=>?_⟩
  induction hx with
  |refl=>exact List.mem_of_getLast? hl
  |step _ hc ih=>exact (hd _ ih _ hc).1
 ·rcases List.eq_nil_or_concat left with rfl|⟨l,c,e2⟩
  ·simp at hl
  ·rw[List.concat_eq_append] at e2;subst e2;simp at hl;subst hl;exact⟨l.reverse,by simp⟩
 ·obtain⟨q,h1,h2⟩:=hr x (List.mem_reverse.1 hx) hne;refine⟨q,h1,?_⟩;have:=List.reverse_sublist.2 h2;simpa using this
 ·rw[List.reverse_reverse];refine (hd u (List.mem_reverse.1 hu) v hv).2.imp (fun h1=>?_) id;have:=List.reverse_sublist.2 h1;simpa using this
section
inductive PathAv (g:Gph) (root a:Nat):Nat->Prop
 |start:root≠a->PathAv g root a root
 |step {b c:Nat}:PathAv g root a b->c∈row g b->c≠a->PathAv g root a c
def Zah (g:Gph) (root a b:Nat):Prop:=¬ PathAv g root a b
theorem PathAv.ne {g:Gph} {root a b:Nat} (h:PathAv g root a b):b≠a:=by cases h<;>assumption
theorem PathAv.path {g:Gph} {root a b:Nat} (h:PathAv g root a b):Path g root b:=by
 induction h with
 |start _=>exact .refl
 |step _ h1 _ ih=>exact ih.step h1
variable {g:Gph} {root:Nat} {order:List Nat}
abbrev plc (order:List Nat) (b:Nat):Nat:=order.idxOf b
inductive FPath (g:Gph) (order:List Nat) (a:Nat):Nat->Prop
 |refl:FPath g order a a
 |step {b c:Nat}:FPath g order a b->c∈row g b->plc order b<plc order c->FPath g order a c
theorem FPath.trans {a b c:Nat} (h:FPath g order a b) (k:FPath g order b c):FPath g order a c:=by
 induction k with
 |refl=>exact h
 |step _ h1 h2 ih=>exact .step ih h1 h2
theorem FPath.le {a b:Nat} (h:FPath g order a b):plc order a<=plc order b:=by
 induction h with
 |refl=>exact Lf _
 |step _ _ h2 ih=>omega
theorem Zjq {L:List Nat} (hn:L.Nodup) {x y:Nat} (h:Bef L x y):plc L x<plc L y:=by
 induction L with
 |nil=>cases h
 |cons z L ih=>
  rw[List.nodup_cons] at hn
  cases h with
  |cons _ h=>
   have hx:x∈L:=h.subset (by simp);have hy:y∈L:=h.subset (by simp);have h1:z≠x:=fun e=>hn.1 (e▸hx)
   have h2:z≠y:=fun e=>hn.1 (e▸hy)
   have:=ih hn.2 h;simp only[plc,List.idxOf_cons,beq_iff_eq,h1,h2,if_false,cond_eq_ite];simp only[plc] at this;omega
  |cons_cons _ h=>
   have hy:y∈L:=h.subset (by simp);have h2:x≠y:=fun e=>hn.1 (e▸hy)
   have h3:(x == y)=false:=by simpa using h2
   simp[plc,List.idxOf_cons,h3]
structure RPO (g:Gph) (root:Nat) (order:List Nat):Prop where
 nodup:order.Nodup
 mem:∀ x,x∈order↔Path g root x
 head:∃ rest,order=root::rest
 pred:∀ x∈order,x≠root->∃ q∈order,x∈row g q/\plc order q<plc order x
 back:∀ u∈order,∀ v∈row g u,plc order u<plc order v\/FPath g order v u
theorem Zlm (hn:order.Nodup) {a b:Nat} (h:DPath g order.reverse a b):FPath g order a b:=by
 induction h with
 |refl=>exact .refl
 |step _ h1 h2 ih=>
  refine .step ih h1 (Zjq hn ?_);have:=List.reverse_sublist.2 h2;simpa using this
theorem PostOk.rpo (h:PostOk g root order):RPO g root order where
 nodup:=h.nodup
 mem:=h.mem
 head:=h.head
 pred:=fun x hx hne=>by
  obtain⟨q,h1,h2⟩:=h.pred x hx hne;exact⟨q,h2.subset (by simp),h1,Zjq h.nodup h2⟩
 back:=fun u hu v hv=>(h.back u hu v hv).imp (Zjq h.nodup) (Zlm h.nodup)
theorem RPO.root_mem (h:RPO g root order):root∈order:=by obtain⟨r,e⟩:=h.head;simp[e]
theorem RPO.root_plc (h:RPO g root order):plc order root=0:=by obtain⟨r,e⟩:=h.head;simp[plc,e,List.idxOf_cons]
theorem RPO.inj (h:RPO g root order) {x y:Nat} (hx:x∈order) (e:plc order x=plc order y):x=y:=by
 have h1:=List.idxOf_lt_length_of_mem hx;have h2:order[plc order x]'h1=x:=List.getElem_idxOf h1;have h3:plc order y<order.length:=by rw[<-e];exact h1
 have h4:order[plc order y]'h3=y:=List.getElem_idxOf h3;rw[<-h2,<-h4];simp[e]
theorem RPO.succ (h:RPO g root order) {u v:Nat} (hu:u∈order) (hv:v∈row g u):v∈order:=(h.mem v).2 (((h.mem u).1 hu).step hv)
theorem RPO.pos (h:RPO g root order) {x:Nat} (hx:x∈order) (hne:x≠root):0<plc order x:=by
 rcases Nat.eq_zero_or_pos (plc order x) with e|e
 ·exact absurd (h.inj hx (e.trans h.root_plc.symm)) hne
 ·exact e
abbrev Out:=List (Option Nat)
def ptr (o:Out) (b:Nat):Option Nat:=o.getD b none
inductive Anc (o:Out):Nat->Nat->Prop
 |refl (b:Nat):Anc o b b
 |up {b p x:Nat}:ptr o b=some p->Anc o p x->Anc o b x
theorem Anc.trans {o:Out} {a b c:Nat} (h:Anc o a b) (k:Anc o b c):Anc o a c:=by
 induction h with
 |refl _=>exact k
 |up h1 _ ih=>exact .up h1 (ih k)
structure OOk (g:Gph) (root:Nat) (order:List Nat) (o:Out):Prop where
 len:o.length=g.length
 rt:ptr o root=some root
 low:∀ b p,ptr o b=some p->b≠root->b∈order/\p∈order/\(∃ q,ptr o p=some q)/\plc order p<plc order b
 fp:∀ b p,ptr o b=some p->b≠root->FPath g order p b
 dom:∀ b p,ptr o b=some p->b≠root->∀ a,Zah g root a b->a≠b->Zah g root a p
section
variable {o o' old:Out} (R:RPO g root order)
include R
theorem OOk.mem (h:OOk g root order o) {b p:Nat} (e:ptr o b=some p):b∈order/\p∈order:=by
 by_cases hb:b=root
 ·subst hb;rw[h.rt] at e
  cases e
  exact⟨R.root_mem,R.root_mem⟩
 ·exact⟨(h.low b p e hb).1,(h.low b p e hb).2.1⟩
theorem OOk.le (h:OOk g root order o) {b p:Nat} (e:ptr o b=some p):plc order p<=plc order b:=by
 by_cases hb:b=root
 ·subst hb;rw[h.rt] at e
  cases e
  exact Lf _
 ·have:=(h.low b p e hb).2.2.2;omega
theorem OOk.anc_root (h:OOk g root order o) {x:Nat} (ha:Anc o root x):x=root:=by
 generalize e:root=r at ha
 induction ha with
 |refl _=>first|exact e.symm|rfl
 |up h1 _ ih=>
  subst e;rw[h.rt] at h1
  cases h1
  exact ih rfl
theorem OOk.anc_le (h:OOk g root order o) {b x:Nat} (ha:Anc o b x):plc order x<=plc order b:=by
 induction ha with
 |refl _=>exact Lf _
 |up h1 _ ih=>have:=h.le R h1;omega
theorem OOk.anc_mem (h:OOk g root order o) {b x:Nat} (ha:Anc o b x) (hb:∃ p,ptr o b=some p):x∈order/\∃ p,ptr o x=some p:=by
 induction ha with
 |refl b=>obtain⟨p,hp⟩:=hb;exact⟨(h.mem R hp).1,p,hp⟩
 | @up b p x h1 _ ih=>
  refine ih ?_
  by_cases e:b=root
  ·subst e;rw[h.rt] at h1
   cases h1
   exact⟨_,h.rt⟩
  ·exact (h.low b p h1 e).2.2.1
theorem OOk.anc_fp (h:OOk g root order o) {b x:Nat} (ha:Anc o b x):FPath g order x b:=by
 induction ha with
 |refl _=>exact .refl
 | @up b p x h1 _ ih=>
  by_cases e:b=root
  ·subst e;rw[h.rt] at h1
   cases h1
   exact ih
  ·exact ih.trans (h.fp b p h1 e)
theorem OOk.anc_up (h:OOk g root order o) {b p x:Nat} (e:ptr o b=some p) (ha:Anc o b x) (hne:x≠b):Anc o p x:=by
 cases ha with
 |refl _=>exact absurd rfl hne
 |up h1 k=>rw[e] at h1;cases h1;exact k
theorem OOk.dom_anc (h:OOk g root order o):∀ (n b a:Nat),plc order b<=n->(∃ p,ptr o b=some p)->Zah g root a b->Anc o b a:=by
 intro n
 induction n with
 |zero=>
  intro b a hn ⟨p,hp⟩ hd;have hb:b=root:=Decidable.byContradiction fun e=>by have:=R.pos (h.mem R hp).1 e;omega
  subst hb
  by_cases e:a=b
  ·subst e;exact .refl _
  ·exact absurd (.start fun e2=>e e2.symm) hd
 |succ n ih=>
  intro b a hn ⟨p,hp⟩ hd
  by_cases e:a=b
  ·subst e;exact .refl _
  ·by_cases hb:b=root
   ·subst hb;exact absurd (.start fun e2=>e e2.symm) hd
   ·obtain⟨_,_,h3,h4⟩:=h.low b p hp hb;exact .up hp (ih p a (by omega) h3 (h.dom b p hp hb a hd e))
omit R in
theorem dom_fp {a d b:Nat} (hf:FPath g order d b) (hd:Zah g root a b) (hlt:plc order a<plc order d):Zah g root a d:=by
 intro hp;refine hd ?_;clear hd
 induction hf with
 |refl=>exact hp
 |step h1 h2 h3 ih=>
  refine .step ih h2 fun e=>?_
  subst e;have:=h1.le;omega
structure Zid (o:Out) (l:List Nat) (d:Nat):Prop where
 some:∃ p∈l,∃ q,ptr o p=some q
 all:∀ p∈l,∀ q,ptr o p=Option.some q->Anc o p d
 most:∀ x,(∀ p∈l,∀ q,ptr o p=Option.some q->Anc o p x)->Anc o d x
structure Turn (g:Gph) (root:Nat) (order:List Nat) (o:Out) (b d:Nat):Prop where
 mem:d∈order
 inn:∃ q,ptr o d=some q
 lt:plc order d<plc order b
 fp:FPath g order d b
 dom:∀ a,Zah g root a b->a≠b->Zah g root a d
abbrev K0 (g:Gph) (b:Nat):List Nat:=row (Xx g) b
theorem Kz {b p:Nat} (hb:b<g.length) (hp:p∈order) (hl:∀ x∈order,x<g.length):p∈K0 g b↔b∈row g p:=by
 rw[K0,Ziu hb];exact⟨fun h=>h.2,fun h=>⟨hl p hp,h⟩⟩
theorem OOk.turn (h:OOk g root order o) (hl:∀ x∈order,x<g.length) {b d:Nat} (hb:b∈order) (hne:b≠root) (hm:Zid o (K0 g b) d)
  (hq:∃ q∈order,b∈row g q/\plc order q<plc order b/\∃ r,ptr o q=some r):Turn g root order o b d:=by
 obtain⟨q,hq1,hq2,hq3,r,hq4⟩:=hq;have hqp:q∈K0 g b:=(Kz R (hl b hb) hq1 hl).2 hq2;have ha:=hm.all q hqp r hq4;have h1:=h.anc_le R ha;obtain⟨h2,h3⟩:=h.anc_mem R ha ⟨r,hq4⟩;have hfp:FPath g order d b:=(h.anc_fp R ha).step hq2 hq3;refine⟨h2,h3,by omega,hfp,fun a hd hne2=>?_⟩;have hx:Anc o d a:=hm.most a fun p hp s hs=>by
  have hpo:=(h.mem R hs).1;refine h.dom_anc R _ p a (Lf _) ⟨s,hs⟩ fun hpa=>hd (hpa.step ((Kz R (hl b hb) hpo hl).1 hp) fun e=>hne2 e.symm)
 have h4:=h.anc_le R hx
 by_cases e:a=d
 ·subst e;exact fun hpa=>hpa.ne rfl
 ·refine dom_fp hfp hd ?_
  rcases Nat.lt_or_eq_of_le h4 with h5|h5
  ·exact h5
  ·exact absurd (R.inj (h.anc_mem R hx h3).1 h5) e
omit R in
theorem Qk {b x:Nat} {v:Option Nat} (hb:b<o.length):ptr (o.set b v) x=if x=b then v else ptr o x:=by
 unfold ptr
 by_cases e:x=b
 ·subst e;simp[List.getD,hb]
 ·have e':¬ b=x:=fun e2=>e e2.symm
  simp[List.getD,List.getElem?_set_ne e',e]
theorem OOk.put (h:OOk g root order o) {b d:Nat} (hb:b∈order) (hbl:b<g.length) (hne:b≠root) (ht:Turn g root order o b d):OOk g root order (o.set b (some d)):=by
 have hbo:b<o.length:=by rw[h.len];exact hbl
 have hin:∀ x,(∃ q,ptr o x=some q)->∃ q,ptr (o.set b (some d)) x=some q:=fun x ⟨q,hq⟩=>by
  rw[Qk hbo]
  by_cases e:x=b
  ·exact⟨d,if_pos e⟩
  ·exact⟨q,by rw[if_neg e];exact hq⟩
 refine⟨by simpa using h.len,by rw[Qk hbo,if_neg (Ne.symm hne)];exact h.rt,fun x p hp hx=>?_,fun x p hp hx=>?_,fun x p hp hx=>?_⟩
 all_goals
  rw[Qk hbo] at hp
  by_cases e:x=b
  ·subst e;rw[if_pos rfl] at hp;injection hp with hp
   subst hp
   first|exact⟨hb,ht.mem,hin _ ht.inn,ht.lt⟩|exact ht.fp|exact ht.dom
  ·rw[if_neg e] at hp
   first
    |(obtain⟨h1,h2,h3,h4⟩:=h.low x p hp hx;exact⟨h1,h2,hin _ h3,h4⟩)
    |exact h.fp x p hp hx
    |exact h.dom x p hp hx
end
end
section
variable {g:Gph} {root:Nat} {order:List Nat}
structure Full (g:Gph) (root:Nat) (order:List Nat) (o:Out):Prop where
 all:∀ b∈order,∃ p,ptr o b=some p
 fwd:∀ u v,u∈order->v∈row g u->plc order u<plc order v->∀ p,ptr o v=some p->Anc o u p
 most:∀ b∈order,b≠root->(∀ p∈order,b∈row g p->plc order p<plc order b)->∀ x,(∀ p∈order,b∈row g p->Anc o p x)->∀ q,ptr o b=some q->Anc o q x
def phi (order:List Nat) (o:Out) (b:Nat):Nat:=match ptr o b with
 |none=>order.length
 |some p=>plc order p
def Phi (order:List Nat) (o:Out):Nat:=(order.map (phi order o)).sum
structure Swp (g:Gph) (root:Nat) (order:List Nat) (old cur:Out) (j:Nat) (t:Bool):Prop where
 ok:OOk g root order cur
 done:∀ b∈order,plc order b<j->∃ p,ptr cur b=some p
 same:∀ b,(b∉order\/j<=plc order b)->ptr cur b=ptr old b
 up:∀ b,b≠root->∀ q,ptr old b=some q->∃ p,ptr cur b=some p/\Anc old q p
 fwd:∀ u v,u∈order->v∈row g u->plc order u<plc order v->plc order v<j->∀ p,ptr cur v=some p->Anc cur u p
 most:∀ b∈order,b≠root->plc order b<j->(∀ p∈order,b∈row g p->plc order p<plc order b)->∀ x,(∀ p∈order,b∈row g p->Anc cur p x)->∀ q,ptr cur b=some q->Anc cur q x
 fix:t=false->cur=old/\∀ b∈order,b≠root->plc order b<j->∀ d,ptr cur b=some d->Zid cur (K0 g b) d
 meas:Phi order cur+(if t then 1 else 0)<=Phi order old
structure Head (g:Gph) (root:Nat) (order:List Nat) (o:Out):Prop where
 ok:OOk g root order o
 st:(∀ b,b≠root->ptr o b=none)\/Full g root order o
section
variable {o old cur:Out} {j:Nat} {t:Bool} (R:RPO g root order)
include R
theorem Swp.start (h:Head g root order old):Swp g root order old old 1 false where
 ok:=h.ok
 done:=fun b hb hj=>by
  by_cases e:b=root
  ·subst e;exact⟨_,h.ok.rt⟩
  ·have:=R.pos hb e;omega
 same:=fun _ _=>rfl
 up:=fun b _ q hq=>⟨q,hq,.refl _⟩
 fwd:=fun u v _ _ h1 h2=>by omega
 most:=fun b hb hne hj=>by have:=R.pos hb hne;omega
 fix:=fun _=>⟨rfl,fun b hb hne hj=>by have:=R.pos hb hne;omega⟩
 meas:=by simp
theorem Znk (hold:OOk g root order old) (hf:Full g root order old) (h:OOk g root order cur) (hup:∀ b,b≠root->∀ q,ptr old b=some q->∃ p,ptr cur b=some p/\Anc old q p) {y x:Nat} (ha:Anc cur y x):Anc old y x:=by
 induction ha with
 |refl _=>exact .refl _
 | @up b p x h1 _ ih=>
  by_cases e:b=root
  ·subst e;rw[h.rt] at h1
   cases h1
   exact ih
  ·obtain⟨q,hq⟩:=hf.all b (h.low b p h1 e).1;obtain⟨p',h2,h3⟩:=hup b e q hq;rw[h1] at h2
   cases h2
   exact .up hq (h3.trans ih)
theorem full_fp (hold:OOk g root order old) (hf:Full g root order old) {b p:Nat} (hb:b∈order) (hp:FPath g order b p):∀ x,Anc old p x->plc order x<=plc order b->Anc old b x:=by
 induction hp with
 |refl=>exact fun x h _=>h
 | @step u v h1 h2 h3 ih=>
  intro x hx hle;have hbu:=h1.le;have hu:u∈order:=by
   clear ih hx hle h2 h3
   induction h1 with
   |refl=>exact hb
   |step k1 k2 _ ih=>exact R.succ (ih k1.le) k2
  obtain⟨pv,hv⟩:=hf.all v (R.succ hu h2);have hne:x≠v:=fun e=>by subst e;omega
  exact ih x ((hf.fwd u v hu h2 h3 pv hv).trans (hold.anc_up R hv hx hne)) hle
omit R in
theorem Zjc {b d:Nat} (hb:b<o.length) (ho:∀ x p,ptr o x=some p->plc order p<=plc order x):∀ {u x:Nat},Anc o u x->plc order u<plc order b->Anc (o.set b (some d)) u x:=by
 intro u x ha
 induction ha with
 |refl _=>exact fun _=>.refl _
 | @up u p x h1 _ ih=>
  intro hlt;have hne:u≠b:=fun e=>by subst e;omega
  have:=ho u p h1;refine .up ?_ (ih (by omega));rw[Qk hb,if_neg hne];exact h1
omit R in
theorem Zig {b d:Nat} (hb:b<o.length) (ho:∀ x p,ptr o x=some p->plc order p<=plc order x):∀ {u x:Nat},Anc (o.set b (some d)) u x->plc order u<plc order b->Anc o u x:=by
 intro u x ha
 induction ha with
 |refl _=>exact fun _=>.refl _
 | @up u p x h1 _ ih=>
  intro hlt;have hne:u≠b:=fun e=>by subst e;omega
  rw[Qk hb,if_neg hne] at h1;have:=ho u p h1;exact .up h1 (ih (by omega))
omit R in
theorem Phi_set {b:Nat} (hb:b<o.length) (hm:b∈order) (hn:order.Nodup) (v:Option Nat):Phi order (o.set b v)+phi order o b=Phi order o+phi order (o.set b v) b:=by
 have key:∀ l:List Nat,l.Nodup->b∈l->(l.map (phi order (o.set b v))).sum+phi order o b=(l.map (phi order o)).sum+phi order (o.set b v) b:=by
  intro l
  induction l with
  |nil=>intro _ h;cases h
  |cons x l ih=>
   intro hn hm;rw[List.nodup_cons] at hn;simp only[List.map_cons,List.sum_cons]
   by_cases e:x=b
   ·subst e;have:l.map (phi order (o.set x v))=l.map (phi order o):=List.map_congr_left fun y hy=>by
     have:¬ y=x:=fun e=>hn.1 (e▸hy)
     unfold phi;rw[Qk hb,if_neg this]
    rw[this];omega
   ·have h1:=ih hn.2 (by simpa [Ne.symm e] using hm);have h2:phi order (o.set b v) x=phi order o x:=by
     unfold phi;rw[Qk hb,if_neg e]
    omega
 exact key order hn hm
theorem Swp.step (h:Swp g root order old cur j t) (hh:Head g root order old) (hl:∀ x∈order,x<g.length) {b d:Nat} (hb:b∈order) (hj:plc order b=j) (hj1:1<=j) (hm:Zid cur (K0 g b) d):
  Swp g root order old (cur.set b (some d)) (j+1) (t|| !decide (ptr cur b=some d)):=by
 have hne:b≠root:=fun e=>by subst e;rw[R.root_plc] at hj;omega
 have hbl:=hl b hb;have hbo:b<cur.length:=by rw[h.ok.len];exact hbl
 have hpm:∀ p∈order,(p∈K0 g b↔b∈row g p):=fun p hp=>Kz R hbl hp hl
 obtain⟨q0,hq1,hq2,hq3⟩:=R.pred b hb hne;have ht:=h.ok.turn R hl hb hne hm ⟨q0,hq1,hq2,hq3,h.done q0 hq1 (by omega)⟩;have hle:∀ x p,ptr cur x=some p->plc order p<=plc order x:=fun x p e=>h.ok.le R e
 have hinj:∀ x∈order,plc order x<j+1->x≠b->plc order x<j:=fun x hx h1 h2=>by
  rcases Nat.lt_or_ge (plc order x) j with h3|h3
  ·exact h3
  ·exact absurd (R.inj hx (by omega)) h2
 have hps:∀ x,ptr (cur.set b (some d)) x=if x=b then some d else ptr cur x:=fun x=>Qk hbo
 have hup:∀ q,ptr old b=some q->Anc old q d:=fun q hq=>by
  rcases hh.st with hf|hf
  ·rw[hf b hne] at hq;cases hq
  ·have hall:∀ p∈order,∃ r,ptr cur p=some r:=fun p hp=>by
    rcases Nat.lt_or_ge (plc order p) j with h1|h1
    ·exact h.done p hp h1
    ·rw[h.same p (.inr h1)];exact hf.all p hp
   have hold:∀ p∈order,b∈row g p->Anc old p d:=fun p hp hbp=>by
    obtain⟨r,hr⟩:=hall p hp;exact Znk R hh.ok hf h.ok h.up (hm.all p ((hpm p hp).2 hbp) r hr)
   by_cases hA:∀ p∈order,b∈row g p->plc order p<plc order b
   ·exact hf.most b hb hne hA d hold q hq
   ·obtain⟨p,hp,hbp,hge⟩:∃ p∈order,b∈row g p/\¬ plc order p<plc order b:=by
     refine Classical.byContradiction fun hc=>hA fun p hp hbp=>?_
     exact Classical.byContradiction fun hge=>hc ⟨p,hp,hbp,hge⟩
    have hfp:=(R.back p hp b hbp).resolve_left hge;have:=full_fp R hh.ok hf hb hfp d (hold p hp hbp) (by have:=ht.lt;omega);exact hh.ok.anc_up R hq this (fun e=>by have:=ht.lt;subst e;omega)
 refine⟨h.ok.put R hb hbl hne ht,fun x hx hxj=>?_,fun x hx=>?_,fun x hx q hq=>?_,fun u v hu hv h1 h2 p hp=>?_,fun x hx hxr hxj hf y hy q hq=>?_,fun htt=>?_,?_⟩
 ·rw[hps]
  by_cases e:x=b
  ·exact⟨d,if_pos e⟩
  ·rw[if_neg e];exact h.done x hx (hinj x hx hxj e)
 ·rw[hps];have e:¬ x=b:=fun e=>by
   subst e
   rcases hx with hx|hx
   ·exact hx hb
   ·omega
  rw[if_neg e];exact h.same x (hx.imp id fun h1=>by omega)
 ·rw[hps]
  by_cases e:x=b
  ·subst e;exact⟨d,if_pos rfl,hup q hq⟩
  ·rw[if_neg e];exact h.up x hx q hq
 ·have hub:plc order u<plc order b:=by omega
  refine Zjc hbo hle ?_ hub;rw[hps] at hp
  by_cases e:v=b
  ·subst e;rw[if_pos rfl] at hp
   cases hp
   obtain⟨r,hr⟩:=h.done u hu (by omega);exact hm.all u ((hpm u hu).2 hv) r hr
  ·rw[if_neg e] at hp;have hvo:=R.succ hu hv;exact h.fwd u v hu hv h1 (hinj v hvo h2 e) p hp
 ·rw[hps] at hq
  by_cases e:x=b
  ·subst e;rw[if_pos rfl] at hq
   cases hq
   refine Zjc hbo hle (hm.most y fun p hp r hr=>?_) ht.lt;have hpo:=(h.ok.mem R hr).1;have hxp:=(hpm p hpo).1 hp;exact Zig hbo hle (hy p hpo hxp) (hf p hpo hxp)
  ·rw[if_neg e] at hq;have hxj2:=hinj x hx hxj e;have h1:=h.ok.le R hq;refine Zjc hbo hle (h.most x hx hxr hxj2 hf y (fun p hp hxp=>Zig hbo hle (hy p hp hxp) ?_) q hq) (by omega);have:=hf p hp hxp;omega
 ·rw[Bool.or_eq_false_iff] at htt;obtain⟨ht1,ht2⟩:=htt;have hpd:ptr cur b=some d:=by simpa using ht2
  have hsame:cur.set b (some d)=cur:=by
   apply List.ext_getElem?
   intro i
   by_cases e:b=i
   ·subst e;rw[List.getElem?_set_self hbo];unfold ptr at hpd;rw[List.getD,List.getElem?_eq_getElem hbo] at hpd;rw[List.getElem?_eq_getElem hbo];exact congrArg some hpd.symm
   ·rw[List.getElem?_set_ne e]
  obtain⟨h1,h2⟩:=h.fix ht1;refine⟨by rw[hsame];exact h1,fun x hx hxr hxj dx hdx=>?_⟩;rw[hsame] at hdx ⊢
  by_cases e:x=b
  ·subst e;rw[hpd] at hdx
   cases hdx
   exact hm
  ·exact h2 x hx hxr (hinj x hx hxj e) dx hdx
 ·have hP:=Phi_set hbo hb R.nodup (some d);have hp1:phi order (cur.set b (some d)) b=plc order d:=by unfold phi;rw[hps,if_pos rfl]
  rw[hp1] at hP;have hms:=h.meas
  by_cases hpd:ptr cur b=some d
  ·have:phi order cur b=plc order d:=by unfold phi;rw[hpd]
   simp only[hpd,decide_true,Bool.not_true,Bool.or_false];omega
  ·have hlt:plc order d<phi order cur b:=by
    unfold phi
    cases hc:ptr cur b with
    |none=>exact List.idxOf_lt_length_of_mem ht.mem
    |some q=>
     have hco:ptr old b=some q:=by rw[<-h.same b (.inr (by omega))];exact hc
     have h1:=hh.ok.anc_le R (hup q hco)
     rcases Nat.lt_or_eq_of_le h1 with h2|h2
     ·exact h2
     ·exact absurd (by rw[hc,R.inj ht.mem h2]) hpd
   simp only[hpd,decide_false,Bool.not_false,Bool.or_true,if_true]
   split at hms<;>omega
theorem Swp.full (h:Swp g root order old cur j t) (hj:order.length<=j):Full g root order cur:=
 have hp:∀ b∈order,plc order b<j:=fun b hb=>by have:plc order b<order.length:=List.idxOf_lt_length_of_mem hb;omega
 ⟨fun b hb=>h.done b hb (hp b hb),fun u v hu hv h1 p hpv=>h.fwd u v hu hv h1 (hp v (R.succ hu hv)) p hpv,fun b hb hne hf x hx q hq=>h.most b hb hne (hp b hb) hf x hx q hq⟩
structure TreeOk (g:Gph) (root:Nat) (order:List Nat) (o:Out):Prop where
 ok:OOk g root order o
 all:∀ b∈order,∃ p,ptr o b=some p
 meet:∀ b∈order,b≠root->∀ d,ptr o b=some d->Zid o (K0 g b) d
theorem Swp.tree (h:Swp g root order old cur j false) (hj:order.length<=j):TreeOk g root order cur:=
 ⟨h.ok,(h.full R hj).all,fun b hb hne d hd=>(h.fix rfl).2 b hb hne (by have:plc order b<order.length:=List.idxOf_lt_length_of_mem hb;omega) d hd⟩
theorem TreeOk.iff (h:TreeOk g root order o) (hl:∀ x∈order,x<g.length) {a b:Nat} (hb:b∈order):Anc o b a↔Zah g root a b:=by
 refine⟨fun ha hp=>?_,fun hd=>h.ok.dom_anc R _ b a (Lf _) (h.all b hb) hd⟩
 revert ha hb
 induction hp with
 |start hne=>exact fun _ ha=>hne (h.ok.anc_root R ha).symm
 | @step p b h1 h2 h3 ih=>
  intro hb ha;have hpo:p∈order:=(R.mem p).2 h1.path;obtain⟨q,hq⟩:=h.all b hb
  by_cases e:b=root
  ·subst e;exact h3 (h.ok.anc_root R ha).symm
  ·have h4:=h.ok.anc_up R hq ha (fun e2=>h3 e2.symm);obtain⟨r,hr⟩:=h.all p hpo;exact ih hpo (((h.meet b hb e q hq).all p ((Kz R (hl b hb) hpo hl).2 h2) r hr).trans h4)
end
end
section
open Go.RowKit
def oi:Option Nat->Int
 |none=> -2
 |some p=>p
def Zaf (o:Out):List Value:=o.map fun x=>.int .i64 (oi x)
def atL (n:Nat) (order:List Nat):List Nat:=(List.range n).map fun b=>if b∈order then plc order b else 0
theorem atL_get {n:Nat} {order:List Nat} {b:Nat} (hb:b∈order) (hn:b<n):(atL n order)[b]?=some (plc order b):=by
 simp[atL,List.getElem?_range hn,hb]
structure MT (w:World) (tb T ob O n:Nat) (order:List Nat) (o:Out):Prop where
 t:w.cell? ⟨tb,0,none⟩=some (.slice (some ⟨T,0,none⟩) n n)
 ts:w.heap[T]?=some (.cells ((atL n order).map Z4).toArray 3 (0,0))
 oc:w.cell? ⟨ob,0,none⟩=some (.slice (some ⟨O,0,none⟩) n n)
 os:w.heap[O]?=some (.cells (Zaf o).toArray 3 (0,0))
theorem MT.atc {w:World} {tb T ob O n:Nat} {order:List Nat} {o:Out} (h:MT w tb T ob O n order o) {b:Nat} (hb:b∈order) (hn:b<n):w.cell? ⟨T,b,none⟩=some (.int .i64 (plc order b)):=by
 rw[(Za h.ts).1];simp[atL_get hb hn,Z4]
theorem Zqs {o:Out} {b p:Nat} (h:ptr o b=some p):o[b]?=some (some p):=by
 unfold ptr at h;rw[List.getD] at h
 cases e:o[b]? with
 |none=>rw[e] at h;cases h
 |some x=>rw[e] at h;exact congrArg some h
theorem MT.outc {w:World} {tb T ob O n:Nat} {order:List Nat} {o:Out} (h:MT w tb T ob O n order o) {b p:Nat} (hp:ptr o b=some p):w.cell? ⟨O,b,none⟩=some (.int .i64 p):=by
 rw[(Za h.os).1];simp[Zaf,Zqs hp,oi]
variable {g:Gph} {root:Nat} {order:List Nat} {o:Out}
structure MI (o:Out) (a b a' b':Nat):Prop where
 l:Anc o a a'
 r:Anc o b b'
 all:∀ x,Anc o a x->Anc o b x->Anc o a' x/\Anc o b' x
theorem MI.left (R:RPO g root order) (ok:OOk g root order o) {a b a' b' p:Nat} (h:MI o a b a' b') (hp:ptr o a'=some p) (hlt:plc order b'<plc order a'):MI o a b p b':=
 ⟨h.l.trans (.up hp (.refl _)),h.r,fun x h1 h2=>by
  obtain⟨k1,k2⟩:=h.all x h1 h2
  have:=ok.anc_le R k2
  exact⟨ok.anc_up R hp k1 (fun e=>by subst e;omega),k2⟩⟩
theorem MI.right (R:RPO g root order) (ok:OOk g root order o) {a b a' b' p:Nat} (h:MI o a b a' b') (hp:ptr o b'=some p) (hlt:plc order a'<plc order b'):MI o a b a' p:=
 ⟨h.l,h.r.trans (.up hp (.refl _)),fun x h1 h2=>by
  obtain⟨k1,k2⟩:=h.all x h1 h2
  have:=ok.anc_le R k1
  exact⟨k1,ok.anc_up R hp k2 (fun e=>by subst e;omega)⟩⟩
def MeetOut (o:Out) (a b:Nat) (w:World) (e:Ending) (w':World):Prop:=∃ d:Nat,e=.returned (.int .i64 d)/\Anc o a d/\Anc o b d/\(∀ x,Anc o a x->Anc o b x->Anc o d x)/\∃ q,w'=w.drewN q
theorem Zqx (R:RPO g root order) (ok:OOk g root order o) {a p:Nat} (hp:ptr o a=some p) (h:0<plc order a):plc order p<plc order a/\(∃ q,ptr o p=some q)/\p∈order:=by
 have hne:a≠root:=fun e=>by subst e;rw[R.root_plc] at h;omega
 obtain⟨_,h2,h3,h4⟩:=ok.low a p hp hne;exact⟨h4,h3,h2⟩
theorem Zvc (a b tb T ob O n:Nat) (w:World) (R:RPO g root order) (ok:OOk g root order o) (hn:n=g.length) (hn2:n<=65536) (hl:∀ x∈order,x<n) (hm:MT w tb T ob O n order o)
  (ha:∃ p,ptr o a=some p) (hb:∃ p,ptr o b=some p):
  Calls Tryz.prog 129 #[.int .i64 a,.int .i64 b,.pointer (some ⟨tb,0,none⟩),.pointer (some ⟨ob,0,none⟩)] w fun e w'=>MeetOut o a b w e w':=by
 have t1:=hm.t;have o1:=hm.oc;have Hm:=hid hm;have Ha:=hid ha;have Hb:=hid hb;clear hm ha hb;go_enter Tryz.func129,Tryz.ntmps129;go_wp2;go_loopg [0,1] (plc order a+plc order b) (fun m s0 s1 wr=>∃ a' b':Nat,s0=.int .i64 a'/\s1=.int .i64 b'/\Hid (MI o a b a' b'/\(∃ p,ptr o a'=some p)/\(∃ p,ptr o b'=some p)/\plc order a'+plc order b'<=m)/\Hid (∃ q,wr=w.drewN q))
 case atStart=>exact⟨a,b,rfl,rfl,⟨⟨.refl _,.refl _,fun x h1 h2=>⟨h1,h2⟩⟩,Ha.out,Hb.out,Lf _⟩,0,rfl⟩
 case round=>
  obtain⟨a',b',rfl,rfl,hI,hW⟩:=hrel;obtain⟨q,rfl⟩:=hW.out;clear hW
  by_cases hab:a'=b'
  ·subst hab;go_wp2;go_ret;exact⟨a',rfl,hI.out.1.l,hI.out.1.r,fun x h1 h2=>(hI.out.1.all x h1 h2).1,q,rfl⟩
  ·have hab1:((a':Int) == b')=false:=by simp;omega
   have hab2:((a':Int) != b')=true:=by simp;omega
   go_wp2;go_loopw [0] (fun s0 wr=>∃ a1:Nat,s0=.int .i64 a1/\Hid (MI o a b a1 b'/\(∃ p,ptr o a1=some p)/\(a1=a'\/plc order a1<plc order a'))/\Hid (∃ q,wr=w.drewN q)) (fun s0 _=>plc order (intOf s0).toNat)
   case atStart=>exact⟨a',rfl,⟨hI.out.1,hI.out.2.1,.inl rfl⟩,q,rfl⟩
   case round=>
    obtain⟨a1,rfl,hJ,hW⟩:=hrel;obtain⟨q1,rfl⟩:=hW.out;clear hW;obtain⟨hMI,⟨p,hp⟩,hor⟩:=hJ.out;obtain⟨p2,hp2⟩:=hI.out.2.2.1;have am:=(ok.mem R hp).1;have bm:=(ok.mem R hp2).1;have al:=hl a1 am;have bl:=hl b' bm;have e1:=Hm.out.atc am al;have e2:=Hm.out.atc bm bl;have e3:=Hm.out.outc hp;have Hp:=hid hp;obtain⟨x1,hx1⟩:∃ x1,x1=plc order a1:=⟨_,rfl⟩
    obtain⟨x2,hx2⟩:∃ x2,x2=plc order b':=⟨_,rfl⟩
    rw[<-hx1] at e1;rw[<-hx2] at e2;have Hx1:=hid hx1;have Hx2:=hid hx2;clear hMI hp hp2 hor hx1 hx2
    by_cases hgt:x2<x1
    ·have hgt1:decide ((x1:Int)>x2)=true:=by simp;omega
     have hgt2:decide ((x2:Int)<x1)=true:=by simp;omega
     go_wp2_with fail;go_region;go_wp2;go_roundw
     case rel=>
      obtain⟨hMI,_,hor⟩:=hJ.out;have hlt:plc order b'<plc order a1:=by have:=Hx1.out;have:=Hx2.out;omega
      obtain⟨k1,k2,_⟩:=Zqx R ok Hp.out (by omega);refine⟨p,rfl,⟨hMI.left R ok Hp.out hlt,k2,.inr ?_⟩,q1+1,rfl⟩
      rcases hor with rfl|hor<;>omega
     case measure=>
      have hlt:plc order b'<plc order a1:=by have:=Hx1.out;have:=Hx2.out;omega
      obtain⟨k1,_,_⟩:=Zqx R ok Hp.out (by omega);simpa [intOf] using k1
    ·have hgt1:decide ((x1:Int)>x2)=false:=by simp;omega
     have hgt2:decide ((x2:Int)<x1)=false:=by simp;omega
     have HK:=hid (show MI o a b a1 b'/\(∃ p,ptr o a1=some p)/\(∃ p,ptr o b'=some p)/\plc order a1<=plc order b'/\(a1=a'\/plc order a1<plc order a') from
                       ⟨hJ.out.1,hJ.out.2.1,hI.out.2.2.1,by have:=Hx1.out;have:=Hx2.out;omega,hJ.out.2.2⟩)
     clear hJ;go_wp2_with fail;go_region;go_wp2;clear e1 e2 e3 hgt hgt1 hgt2 am bm al bl Hx1 Hx2 Hp;go_loopw [1] (fun s1 wr=>∃ b1:Nat,s1=.int .i64 b1/\Hid (MI o a b a1 b1/\(∃ p,ptr o b1=some p)/\(b1=b'\/plc order b1<plc order b'))/\Hid (∃ q,wr=w.drewN q)) (fun s1 _=>plc order (intOf s1).toNat)
     case atStart=>exact⟨b',rfl,⟨HK.out.1,HK.out.2.2.1,.inl rfl⟩,q1+1,rfl⟩
     case round=>
      obtain⟨b1,rfl,hJ,hW⟩:=hrel;obtain⟨q2,rfl⟩:=hW.out;clear hW;obtain⟨hMI,⟨p3,hp3⟩,hor⟩:=hJ.out;obtain⟨p4,hp4⟩:=HK.out.2.1;have am:=(ok.mem R hp4).1;have bm:=(ok.mem R hp3).1;have al:=hl a1 am;have bl:=hl b1 bm;have e1:=Hm.out.atc am al;have e2:=Hm.out.atc bm bl;have e3:=Hm.out.outc hp3;have Hp:=hid hp3;obtain⟨x1,hx1⟩:∃ x1,x1=plc order a1:=⟨_,rfl⟩
      obtain⟨x2,hx2⟩:∃ x2,x2=plc order b1:=⟨_,rfl⟩
      rw[<-hx1] at e1;rw[<-hx2] at e2;have Hx1:=hid hx1;have Hx2:=hid hx2;clear hMI hp3 hp4 hor hx1 hx2
      by_cases hgt:x1<x2
      ·have hgt1:decide ((x2:Int)>x1)=true:=by simp;omega
       have hgt2:decide ((x1:Int)<x2)=true:=by simp;omega
       go_wp2_with fail;go_region;go_wp2;go_roundw
       case rel=>
        obtain⟨hMI,_,hor⟩:=hJ.out;have hlt:plc order a1<plc order b1:=by have:=Hx1.out;have:=Hx2.out;omega
        obtain⟨k1,k2,_⟩:=Zqx R ok Hp.out (by omega);refine⟨p3,rfl,⟨hMI.right R ok Hp.out hlt,k2,.inr ?_⟩,q2+1,rfl⟩
        rcases hor with rfl|hor<;>omega
       case measure=>
        have hlt:plc order a1<plc order b1:=by have:=Hx1.out;have:=Hx2.out;omega
        obtain⟨k1,_,_⟩:=Zqx R ok Hp.out (by omega);simpa [intOf] using k1
      ·have hgt1:decide ((x2:Int)>x1)=false:=by simp;omega
       have hgt2:decide ((x1:Int)<x2)=false:=by simp;omega
       go_wp2_with fail;go_region;go_wp2;go_roundg (plc order a1+plc order b1)
       case measure=>
        obtain⟨_,_,_,h1⟩:=hI.out;obtain⟨_,_,_,h2,h3⟩:=HK.out;obtain⟨_,_,h4⟩:=hJ.out;have h5:plc order b1<=plc order a1:=by have:=Hx1.out;have:=Hx2.out;omega
        rcases h3 with rfl|h3
        ·rcases h4 with rfl|h4
         ·exact absurd (R.inj am (by omega)) hab
         ·omega
        ·rcases h4 with rfl|h4<;>omega
       case rel=>exact⟨a1,b1,rfl,rfl,⟨hJ.out.1,HK.out.2.1,hJ.out.2.1,Lf _⟩,q2+1,rfl⟩
end

/- slices. Conditions in it. -/
import Derived.Shelf.SlicesE.Clone
import Derived.Test.YtlcogjllnbfneaaGreatEIds
import Derived.RangeFuncWrites
set_option maxHeartbeats 2000000
set_option maxRecDepth 100000
set_option linter.all false
namespace Go.Proofs.YtlcogjllnbfneaaGreat
section
open Go.RowKit Go.Shelf
structure Zfa {α:Type} (R:Rdr α) (sz:Nat):Prop where
 cells:∀ {w:World} {B b o:Nat} {x:α},R w B b o x->∀ j,j<sz->∃ u,w.cell? ⟨b,o+j,none⟩=some u/\u.oneCell'=true
 copy:∀ {w w':World} {B b o b' o':Nat} {x:α},R w B b o x->(∀ p:Addr,p.block<B->w'.cell? p=w.cell? p)->(∀ j,j<sz->w'.cell? ⟨b',o'+j,none⟩=w.cell? ⟨b,o+j,none⟩)->R w' B b' o' x
theorem funR.copies:Zfa funR 3 where
 cells:=fun h j hj=>by
  obtain⟨A1,d1,A2,d2,_,_,_,e0,e1,e2⟩:=Yh h
  match j,hj with
  |0,_=>exact⟨_,e0,rfl⟩
  |1,_=>exact⟨_,e1,rfl⟩
  |2,_=>exact⟨_,e2,rfl⟩
 copy:=fun ⟨vp,vb,h,c0,c1,c2⟩ hk hc=>⟨vp,vb,h.keep hk,(hc 0 (by decide)).trans c0,(hc 1 (by decide)).trans c1,(hc 2 (by decide)).trans c2⟩
theorem blkR.copies:Zfa blkR 2 where
 cells:=fun h j hj=>by
  obtain⟨A1,d1,_,_,e0,e1⟩:=Yg h
  match j,hj with
  |0,_=>exact⟨_,e0,rfl⟩
  |1,_=>exact⟨_,e1,rfl⟩
 copy:=fun ⟨vc,h,c0,c1⟩ hk hc=>⟨vc,h.keep hk,(hc 0 (by decide)).trans c0,(hc 1 (by decide)).trans c1⟩
theorem insR.copies:Zfa insR 8 where
 cells:=fun h j hj=>by
  obtain⟨A1,d1,A2,d2,_,_,_,e0,e1,e2,e3,e4,e5,e6,e7⟩:=Yw h
  match j,hj with
  |0,_=>exact⟨_,e0,rfl⟩
  |1,_=>exact⟨_,e1,rfl⟩
  |2,_=>exact⟨_,e2,rfl⟩
  |3,_=>exact⟨_,e3,rfl⟩
  |4,_=>exact⟨_,e4,rfl⟩
  |5,_=>exact⟨_,e5,rfl⟩
  |6,_=>exact⟨_,e6,rfl⟩
  |7,_=>exact⟨_,e7,rfl⟩
 copy:=fun ⟨va,vl,h,c0,c1,c2,c3,c4,c5,c6,c7⟩ hk hc=>⟨va,vl,h.keep hk,(hc 0 (by decide)).trans c0,(hc 1 (by decide)).trans c1,(hc 2 (by decide)).trans c2,(hc 3 (by decide)).trans c3,(hc 4 (by decide)).trans c4,(hc 5 (by decide)).trans c5,(hc 6 (by decide)).trans c6,(hc 7 (by decide)).trans c7⟩
def ptR:Rdr (Nat×Nat×Nat):=fun w _ b o x=>w.cell? ⟨b,o,none⟩=some (.int .i64 x.1)/\w.cell? ⟨b,o+1,none⟩=some (.int .i64 x.2.1)/\w.cell? ⟨b,o+2,none⟩=some (.int .i64 x.2.2)
theorem ptR.keeps:Qs ptR:=⟨fun hk hb h=>⟨(hk _ hb).trans h.1,(hk _ hb).trans h.2.1,(hk _ hb).trans h.2.2⟩,fun _ h=>h⟩
theorem ptR.copies:Zfa ptR 3 where
 cells:=fun h j hj=>by
  match j,hj with
  |0,_=>exact⟨_,h.1,rfl⟩
  |1,_=>exact⟨_,h.2.1,rfl⟩
  |2,_=>exact⟨_,h.2.2,rfl⟩
 copy:=fun h _ hc=>⟨(hc 0 (by decide)).trans h.1,(hc 1 (by decide)).trans h.2.1,(hc 2 (by decide)).trans h.2.2⟩
def Zbe {α:Type} (R:Rdr α) (sz:Nat) (T:TypeId) (w:World) (B:Nat) (l:List α) (e:Ending) (w':World):Prop:=
 Below w.heap.size w w'/\∃ A c,e=.returned (.slice A l.length c)/\l.length<=c/\c<=maxLen/\((A=none/\l=[]/\c=0)\/∃ g cur,A=some ⟨g,0,none⟩/\w.heap.size<=g/\w'.heap[g]?=some (.cells cur T (0,0))/\∀ k x,l[k]?=some x->R w' B g (k*sz) x)
def cellsOf (w:World) (b off n:Nat):List Value:=(List.range n).map fun j=>(w.cell? ⟨b,off+j,none⟩).getD undef
theorem Zfk {w:World} {b off n j:Nat} {u:Value} (hj:j<n) (h:w.cell? ⟨b,off+j,none⟩=some u):(cellsOf w b off n)[j]?=some u:=by simp[cellsOf,hj,h]
theorem Zfn {α:Type} {R:Rdr α} {sz:Nat} {T:TypeId} (hC:Zfa R sz) (hsz:0<sz) {bytes F:Nat} {w:World} {B:Nat} {v:Value} {l:List α} (h:SlAt R sz w B v l) (hB:B<=w.heap.size) (hbig:l.length*bytes<=140737488355328)
  (hnil:∀ n c w,Calls Tryz.prog F #[.slice none n c] w fun e w'=>e=.returned (.slice none 0 0)/\w'=w)
  (hsome:∀ (b off n c:Nat) (news:List Value) (w:World),news.length=n*sz->n<=maxLen->n*bytes<=140737488355328->(∀ j u,news[j]?=some u->w.cell? ⟨b,off+j,none⟩=some u)->(∀ u∈news,u.oneCell'=true)->
   Calls Tryz.prog F #[.slice (some ⟨b,off,none⟩) n c] w fun e w'=>∃ v',e=.returned v'/\w'.ownsRow w.heap.size T sz v' n news/\v'≠.slice none 0 0/\Below w.heap.size w w')
  (hzero:∀ (a:Addr) c w,Calls Tryz.prog F #[.slice (some a) 0 c] w fun e w'=>∃ v',e=.returned v'/\w'.ownsRow w.heap.size T sz v' 0 []/\v'≠.slice none 0 0/\Below w.heap.size w w'):
  Calls Tryz.prog F #[v] w (Zbe R sz T w B l):=by
 obtain⟨A,c,rfl,h1,h2,h3⟩:=h
 rcases A with _|a
 ·have h0:l=[]:=by
   cases l with
   |nil=>rfl
   |cons x l=>obtain⟨_,_,e,_⟩:=h3 0 x rfl;cases e
  subst h0;refine (hnil _ c w).mono ?_;rintro e w' ⟨rfl,rfl⟩;exact⟨Below.refl _ _,none,0,rfl,Lf _,by unfold maxLen;omega,.inl ⟨rfl,rfl,rfl⟩⟩
 ·by_cases h0:l=[]
  ·subst h0;refine (hzero a c w).mono ?_;rintro e w' ⟨v',rfl,ho,hne,hb'⟩;obtain⟨A',c',rfl,k1,k2,k3,k4⟩:=Zz ho;refine⟨hb',A',c',rfl,k1,k2,.inr ?_⟩
   rcases ho.2 with ⟨e,_⟩|⟨g,cap,cur,e,hg,hh,_⟩
   ·exact absurd e hne
   ·injection e with e _ _
    exact⟨g,cur,e,hg,hh,fun k x hx=>by simp at hx⟩
  ·have hp:0<l.length:=List.length_pos_iff.2 h0;obtain⟨b,off,e,_,_⟩:=h3 0 _ (Ld hp);injection e with e
   subst e;have hat:∀ k x,l[k]?=some x->b<B/\R w B b (off+k*sz) x:=fun k x hx=>by
    obtain⟨b',off',e,hb,hr⟩:=h3 k x hx;injection e with e
    injection e with e1 e2
    subst e1;subst e2;exact⟨hb,hr⟩
   have hcell:∀ j,j<l.length*sz->∃ u,w.cell? ⟨b,off+j,none⟩=some u/\u.oneCell'=true:=fun j hj=>by
    have hk:j / sz<l.length:=Nat.div_lt_of_lt_mul (by rw[Nat.mul_comm];exact hj);obtain⟨u,hu,h1⟩:=hC.cells (hat _ _ (Ld hk)).2 (j % sz) (Nat.mod_lt _ hsz);refine⟨u,?_,h1⟩;rw[<-hu]
    congr 2
    rw[Nat.add_assoc,Nat.div_add_mod']
   refine (hsome b off l.length c (cellsOf w b off (l.length*sz)) w (by simp[cellsOf]) (Nat.le_trans h1 h2) hbig (fun j u hu=>?_) (fun u hu=>?_)).mono ?_
   ·have hj:j<l.length*sz:=by
     have:=(Le hu).1;simpa [cellsOf] using this
    obtain⟨u',hu',_⟩:=hcell j hj;rw[Zfk hj hu'] at hu;injection hu with hu
    rw[<-hu];exact hu'
   ·unfold cellsOf at hu;obtain⟨j,hj,rfl⟩:=List.mem_map.1 hu;obtain⟨u',hu',h1'⟩:=hcell j (by simpa using hj);rw[hu'];exact h1'
   ·rintro e w' ⟨v',rfl,ho,hne,hb'⟩
    rcases ho.2 with ⟨e,_⟩|⟨g,cap,cur,e,hg,hh,k1,k2,_⟩
    ·exact absurd e hne
    ·subst e;refine⟨hb',_,cap,rfl,k1,k2,.inr ⟨g,cur,rfl,hg,hh,fun k x hx=>?_⟩⟩;obtain⟨_,_,_,_,hcl⟩:=Xm ho;have hk:k<l.length:=(Le hx).1;refine hC.copy (hat k x hx).2 (fun p hp=>hb'.cell (Lm hp hB)) (fun j hj=>?_);have hlt:k*sz+j<l.length*sz:=by
      have:(k+1)*sz<=l.length*sz:=Nat.mul_le_mul_right _ hk;rw[Nat.succ_mul] at this;omega
     obtain⟨u,hu,_⟩:=hcell (k*sz+j) hlt;rw[hcl _ u (Zfk hlt hu),<-hu,Nat.add_assoc]
def layFunc_ren:Go.Shelf.Ren:=⟨fun|41=>94|n=>n,fun|22=>45|23=>37|4=>4|n=>n,fun|n=>n⟩
theorem Zqj:Go.Proofs.SlLaysE0.n41 Tryz.prog layFunc_ren:={
 mixed:=by kernel_rfl
 f41:=⟨Tryz.f94.name,by decide,Tryz.func94.trans (congrArg some (by kernel_rfl))⟩
 t4:=Tryz.underlying4
 a4:=Tryz.isAgg4
 z4:=Tryz.sizeOf4
 v4:=Tryz.zeroValue4
 t22:=Tryz.underlying45
 a22:=Tryz.isAgg45
 z22:=Tryz.sizeOf45
 v22:=Tryz.zeroValue45 }
theorem Zlz:(Tryz.prog.info? 37).map (fun i=>(i.zero,i.size,i.bytes))=some (some (.agg #[.string ⟨#[]⟩,.slice none 0 0,.slice none 0 0]),3,64):=by kernel_rfl
theorem Zwi (a:Addr) (c:Nat) (w:World):Calls Tryz.prog 94 #[.slice (some a) 0 c] w fun e w'=>∃ v',e=.returned v'/\w'.ownsRow w.heap.size 37 3 v' 0 []/\v'≠.slice none 0 0/\Below w.heap.size w w':=by
 obtain⟨i0,hi,hz0,hz1,hz2⟩:=info_parts Zlz;have q22:∀ (w:World) (a:Option Addr) (n c n' c':Nat),(binOp .eql 45 (.slice a n c) (.slice none n' c')).run Tryz.prog w=.ok (.bool a.isNone) w:=fun w a n c n' c'=>Lib.run_eql_slice_nil w _ _ a n c n' c' Tryz.underlying45
 go_enter Tryz.func94,Tryz.ntmps94;go_wp2_with (at_builtin;refine wpList_append_own _ rfl _ _ 45 rfl w.heap.size 37 i0 _ 3 64 Tryz.underlying45 hi hz0 hz1 hz2 rfl (by decide) _ _ _ rfl (World.ownsRow_made w #[] 0 (Lf _) (Ln _) rfl) a 0 c [] rfl rfl (by intro j u hj;simp at hj) (by intro u hu;cases hu) (by unfold maxLen;omega) (by omega) (by simp) ?_);intro v' w1 hown hgrow hnil;go_wp2;go_ret;refine⟨v',rfl,by simpa using hown,?_,?_⟩
 ·first|exact hnil|(intro e;exact absurd (hnil.1 e).1 (by simp))
 ·exact ((Below.refl _ w).alloc (Lf _) _).grown hgrow (by simp) (by intro k hk;simp[Value.ownBlock] at hk;omega)
theorem Zhj {v:Value} {l:List _} {B:Nat} {w:World} (h:SlAt funR 3 w B v l) (hB:B<=w.heap.size) (hb:l.length*64<=140737488355328):Calls Tryz.prog 94 #[v] w (Zbe funR 3 37 w B l):=by
 obtain⟨i,hi,hz0,hz1,hz2⟩:=info_parts Zlz;exact Zfn (bytes:=64) funR.copies (by decide) h hB hb (fun n c w=>AnyE.slices_Clone_nil Zqj n c w)
  (fun b off n c news w h1 h2 h3 h4 h5=>AnyE.slices_Clone Zqj i _ 3 64 hi hz0 hz1 hz2 rfl (by decide) Tryz.sizeOf37 b off n c news w h1 h2 h3 h4 h5)
  (fun a c w=>Zwi a c w)
def layBlock_ren:Go.Shelf.Ren:=⟨fun|41=>96|n=>n,fun|22=>35|23=>39|4=>4|n=>n,fun|n=>n⟩
theorem Zmb:Go.Proofs.SlLaysE0.n41 Tryz.prog layBlock_ren:={
 mixed:=by kernel_rfl
 f41:=⟨Tryz.f96.name,by decide,Tryz.func96.trans (congrArg some (by kernel_rfl))⟩
 t4:=Tryz.underlying4
 a4:=Tryz.isAgg4
 z4:=Tryz.sizeOf4
 v4:=Tryz.zeroValue4
 t22:=Tryz.underlying35
 a22:=Tryz.isAgg35
 z22:=Tryz.sizeOf35
 v22:=Tryz.zeroValue35 }
theorem Zis:(Tryz.prog.info? 39).map (fun i=>(i.zero,i.size,i.bytes))=some (some (.agg #[.string ⟨#[]⟩,.slice none 0 0]),2,40):=by kernel_rfl
theorem Ztm (a:Addr) (c:Nat) (w:World):Calls Tryz.prog 96 #[.slice (some a) 0 c] w fun e w'=>∃ v',e=.returned v'/\w'.ownsRow w.heap.size 39 2 v' 0 []/\v'≠.slice none 0 0/\Below w.heap.size w w':=by
 obtain⟨i0,hi,hz0,hz1,hz2⟩:=info_parts Zis;have q22:∀ (w:World) (a:Option Addr) (n c n' c':Nat),(binOp .eql 35 (.slice a n c) (.slice none n' c')).run Tryz.prog w=.ok (.bool a.isNone) w:=fun w a n c n' c'=>Lib.run_eql_slice_nil w _ _ a n c n' c' Tryz.underlying35
 go_enter Tryz.func96,Tryz.ntmps96;go_wp2_with (at_builtin;refine wpList_append_own _ rfl _ _ 35 rfl w.heap.size 39 i0 _ 2 40 Tryz.underlying35 hi hz0 hz1 hz2 rfl (by decide) _ _ _ rfl (World.ownsRow_made w #[] 0 (Lf _) (Ln _) rfl) a 0 c [] rfl rfl (by intro j u hj;simp at hj) (by intro u hu;cases hu) (by unfold maxLen;omega) (by omega) (by simp) ?_);intro v' w1 hown hgrow hnil;go_wp2;go_ret;refine⟨v',rfl,by simpa using hown,?_,?_⟩
 ·first|exact hnil|(intro e;exact absurd (hnil.1 e).1 (by simp))
 ·exact ((Below.refl _ w).alloc (Lf _) _).grown hgrow (by simp) (by intro k hk;simp[Value.ownBlock] at hk;omega)
theorem Zfl {v:Value} {l:List _} {B:Nat} {w:World} (h:SlAt blkR 2 w B v l) (hB:B<=w.heap.size) (hb:l.length*40<=140737488355328):Calls Tryz.prog 96 #[v] w (Zbe blkR 2 39 w B l):=by
 obtain⟨i,hi,hz0,hz1,hz2⟩:=info_parts Zis;exact Zfn (bytes:=40) blkR.copies (by decide) h hB hb (fun n c w=>AnyE.slices_Clone_nil Zmb n c w)
  (fun b off n c news w h1 h2 h3 h4 h5=>AnyE.slices_Clone Zmb i _ 2 40 hi hz0 hz1 hz2 rfl (by decide) Tryz.sizeOf39 b off n c news w h1 h2 h3 h4 h5)
  (fun a c w=>Ztm a c w)
def layInstr_ren:Go.Shelf.Ren:=⟨fun|41=>97|n=>n,fun|22=>28|23=>25|4=>4|n=>n,fun|n=>n⟩
theorem Zmc:Go.Proofs.SlLaysE0.n41 Tryz.prog layInstr_ren:={
 mixed:=by kernel_rfl
 f41:=⟨Tryz.f97.name,by decide,Tryz.func97.trans (congrArg some (by kernel_rfl))⟩
 t4:=Tryz.underlying4
 a4:=Tryz.isAgg4
 z4:=Tryz.sizeOf4
 v4:=Tryz.zeroValue4
 t22:=Tryz.underlying28
 a22:=Tryz.isAgg28
 z22:=Tryz.sizeOf28
 v22:=Tryz.zeroValue28 }
theorem Zit:(Tryz.prog.info? 25).map (fun i=>(i.zero,i.size,i.bytes))=some (some (.agg #[.int .u8 0,.string ⟨#[]⟩,.string ⟨#[]⟩,.string ⟨#[]⟩,.int .i64 0,.string ⟨#[]⟩,.slice none 0 0,.slice none 0 0]),8,128):=by kernel_rfl
theorem Ztn (a:Addr) (c:Nat) (w:World):Calls Tryz.prog 97 #[.slice (some a) 0 c] w fun e w'=>∃ v',e=.returned v'/\w'.ownsRow w.heap.size 25 8 v' 0 []/\v'≠.slice none 0 0/\Below w.heap.size w w':=by
 obtain⟨i0,hi,hz0,hz1,hz2⟩:=info_parts Zit;have q22:∀ (w:World) (a:Option Addr) (n c n' c':Nat),(binOp .eql 28 (.slice a n c) (.slice none n' c')).run Tryz.prog w=.ok (.bool a.isNone) w:=fun w a n c n' c'=>Lib.run_eql_slice_nil w _ _ a n c n' c' Tryz.underlying28
 go_enter Tryz.func97,Tryz.ntmps97;go_wp2_with (at_builtin;refine wpList_append_own _ rfl _ _ 28 rfl w.heap.size 25 i0 _ 8 128 Tryz.underlying28 hi hz0 hz1 hz2 rfl (by decide) _ _ _ rfl (World.ownsRow_made w #[] 0 (Lf _) (Ln _) rfl) a 0 c [] rfl rfl (by intro j u hj;simp at hj) (by intro u hu;cases hu) (by unfold maxLen;omega) (by omega) (by simp) ?_);intro v' w1 hown hgrow hnil;go_wp2;go_ret;refine⟨v',rfl,by simpa using hown,?_,?_⟩
 ·first|exact hnil|(intro e;exact absurd (hnil.1 e).1 (by simp))
 ·exact ((Below.refl _ w).alloc (Lf _) _).grown hgrow (by simp) (by intro k hk;simp[Value.ownBlock] at hk;omega)
theorem Zfm {v:Value} {l:List _} {B:Nat} {w:World} (h:SlAt insR 8 w B v l) (hB:B<=w.heap.size) (hb:l.length*128<=140737488355328):Calls Tryz.prog 97 #[v] w (Zbe insR 8 25 w B l):=by
 obtain⟨i,hi,hz0,hz1,hz2⟩:=info_parts Zit;exact Zfn (bytes:=128) insR.copies (by decide) h hB hb (fun n c w=>AnyE.slices_Clone_nil Zmc n c w)
  (fun b off n c news w h1 h2 h3 h4 h5=>AnyE.slices_Clone Zmc i _ 8 128 hi hz0 hz1 hz2 rfl (by decide) Tryz.sizeOf25 b off n c news w h1 h2 h3 h4 h5)
  (fun a c w=>Ztn a c w)
def layPoint_ren:Go.Shelf.Ren:=⟨fun|41=>66|n=>n,fun|22=>56|23=>41|4=>4|n=>n,fun|n=>n⟩
theorem Yif:Go.Proofs.SlLaysE0.n41 Tryz.prog layPoint_ren:={
 mixed:=by kernel_rfl
 f41:=⟨Tryz.f66.name,by decide,Tryz.func66.trans (congrArg some (by kernel_rfl))⟩
 t4:=Tryz.underlying4
 a4:=Tryz.isAgg4
 z4:=Tryz.sizeOf4
 v4:=Tryz.zeroValue4
 t22:=Tryz.underlying56
 a22:=Tryz.isAgg56
 z22:=Tryz.sizeOf56
 v22:=Tryz.zeroValue56 }
theorem Yhw:(Tryz.prog.info? 41).map (fun i=>(i.zero,i.size,i.bytes))=some (some (.agg #[.int .i64 0,.int .i64 0,.int .i64 0]),3,24):=by kernel_rfl
theorem Yjd (a:Addr) (c:Nat) (w:World):Calls Tryz.prog 66 #[.slice (some a) 0 c] w fun e w'=>∃ v',e=.returned v'/\w'.ownsRow w.heap.size 41 3 v' 0 []/\v'≠.slice none 0 0/\Below w.heap.size w w':=by
 obtain⟨i0,hi,hz0,hz1,hz2⟩:=info_parts Yhw;have q22:∀ (w:World) (a:Option Addr) (n c n' c':Nat),(binOp .eql 56 (.slice a n c) (.slice none n' c')).run Tryz.prog w=.ok (.bool a.isNone) w:=fun w a n c n' c'=>Lib.run_eql_slice_nil w _ _ a n c n' c' Tryz.underlying56
 go_enter Tryz.func66,Tryz.ntmps66;go_wp2_with (at_builtin;refine wpList_append_own _ rfl _ _ 56 rfl w.heap.size 41 i0 _ 3 24 Tryz.underlying56 hi hz0 hz1 hz2 rfl (by decide) _ _ _ rfl (World.ownsRow_made w #[] 0 (Lf _) (Ln _) rfl) a 0 c [] rfl rfl (by intro j u hj;simp at hj) (by intro u hu;cases hu) (by unfold maxLen;omega) (by omega) (by simp) ?_);intro v' w1 hown hgrow hnil;go_wp2;go_ret;refine⟨v',rfl,by simpa using hown,?_,?_⟩
 ·first|exact hnil|(intro e;exact absurd (hnil.1 e).1 (by simp))
 ·exact ((Below.refl _ w).alloc (Lf _) _).grown hgrow (by simp) (by intro k hk;simp[Value.ownBlock] at hk;omega)
theorem Yhs {v:Value} {l:List _} {B:Nat} {w:World} (h:SlAt ptR 3 w B v l) (hB:B<=w.heap.size) (hb:l.length*24<=140737488355328):Calls Tryz.prog 66 #[v] w (Zbe ptR 3 41 w B l):=by
 obtain⟨i,hi,hz0,hz1,hz2⟩:=info_parts Yhw;exact Zfn (bytes:=24) ptR.copies (by decide) h hB hb (fun n c w=>AnyE.slices_Clone_nil Yif n c w)
  (fun b off n c news w h1 h2 h3 h4 h5=>AnyE.slices_Clone Yif i _ 3 24 hi hz0 hz1 hz2 rfl (by decide) Tryz.sizeOf41 b off n c news w h1 h2 h3 h4 h5)
  (fun a c w=>Yjd a c w)
end
section
open Go.RowKit Go.Shelf
structure SSt where
 vars:List (Nat×Str)
 pl:List GPt
 sites:List (GPt×Nat×Nat)
 of:List Nat
 at_:List (GPt×Nat)
def Xe (x:GIns):Bool:=x.op == 1||x.op == 2
def SSt.var (s:SSt) (k:Nat×Str):SSt:={ s with vars:=Ub s.vars k }
def SSt.pt (s:SSt) (q:GPt):SSt:={ s with pl:=s.pl++[q] }
def SSt.site (s:SSt) (q:GPt) (n:Nat):SSt:={ s with at_:=Yz s.at_ q s.sites.length,sites:=s.sites++[(q,s.of.length,n)] }
def SSt.fld (s:SSt) (j:Nat):SSt:={ s with of:=s.of++List.replicate j (s.sites.length-1) }
def SSt.ins (s:SSt) (i:Nat) (q:GPt×GIns):SSt:=
 let pt:GPt:=(i,q.1.2.1,q.1.2.2)
 let s1:=if q.2.dst.isEmpty then s.pt pt else (s.pt pt).var (i,q.2.dst)
 if Xe q.2 then (s1.site pt q.2.n.toNat).fld q.2.n.toNat else s1
def SSt.par (s:SSt) (i:Nat) (l:List Str):SSt:=l.foldl (fun s t=>s.var (i,t)) s
def SSt.code (s:SSt) (i:Nat) (l:List (GPt×GIns)):SSt:=l.foldl (fun s q=>s.ins i q) s
def SSt.fn (s:SSt) (i:Nat) (f:GFun):SSt:=(s.par i f.params).code i (pts [f])
def sst0:SSt:=⟨[],[],[],[],[]⟩
def Zh (p:GProg) (k:Nat):SSt:=(p.take k).zipIdx.foldl (fun s q=>s.fn q.2 q.1) sst0
def Zy (p:GProg) (k:Nat):List Str:=(p.take k).foldl (fun l f=>Ub l f.name) []
theorem Vm (p:GProg):Zh p 0=sst0:=by simp[Zh]
theorem Xf {p:GProg} {k:Nat} {f:GFun} (h:p[k]?=some f):Zh p (k+1)=(Zh p k).fn k f:=by
 have hk:=(Le h).1;have e:p.take (k+1)=p.take k++[f]:=by rw[List.take_add_one,h];rfl
 have hl:(p.take k).length=k:=by rw[List.length_take];omega
 unfold Zh;rw[e,List.zipIdx_append,List.foldl_append,hl];simp
theorem Km (p:GProg):Zy p 0=[]:=by simp[Zy]
theorem Uz {p:GProg} {k:Nat} {f:GFun} (h:p[k]?=some f):Zy p (k+1)=Ub (Zy p k) f.name:=by
 have e:p.take (k+1)=p.take k++[f]:=by rw[List.take_add_one,h];rfl
 unfold Zy;rw[e,List.foldl_append];rfl
theorem SSt.par_more (s:SSt) (i:Nat) {l:List Str} {j:Nat} {t:Str} (h:l[j]?=some t):s.par i (l.take (j+1))=(s.par i (l.take j)).var (i,t):=by
 have e:l.take (j+1)=l.take j++[t]:=by rw[List.take_add_one,h];rfl
 unfold SSt.par;rw[e,List.foldl_append];rfl
theorem SSt.code_more (s:SSt) (i:Nat) (l:List (GPt×GIns)) (q:GPt×GIns):s.code i (l++[q])=(s.code i l).ins i q:=by simp[SSt.code,List.foldl_append]
def Kk (q:GPt):List Value:=[.int .i64 q.1,.int .i64 q.2.1,.int .i64 q.2.2]
def Qc (x:GPt×Nat×Nat):List Value:=[.int .i64 x.1.1,.int .i64 x.1.2.1,.int .i64 x.1.2.2,.int .i64 x.2.1,.int .i64 x.2.2]
theorem infoSi:(Tryz.prog.info? 119).map (fun i=>(i.zero,i.size,i.bytes))=some (some (.agg #[.int .i64 0,.int .i64 0,.int .i64 0,.int .i64 0,.int .i64 0]),5,40):=by kernel_rfl
def Apart (a b:Value):Prop:=a.ownBlock=none\/a.ownBlock≠b.ownBlock
theorem Apart.symm {a b:Value} (h:Apart a b):Apart b a:=by
 unfold Apart at*
 cases hb:b.ownBlock with
 |none=>exact .inl rfl
 |some x=>
  right
  rcases h with h|h
  ·rw[h];simp
  ·rw[hb] at h;exact fun e=>h e.symm
theorem Apart.turn {w:World} {base n:Nat} {e:TypeId} {sz:Nat} {xs:List Value} {a a' b:Value} (h:Apart a b) (hb:w.ownsRow base e sz b n xs) (hn:∀ g,a'.ownBlock=some g->a.ownBlock=some g\/w.heap.size<=g):Apart a' b:=by
 unfold Apart at*
 cases ha:a'.ownBlock with
 |none=>exact .inl rfl
 |some g=>
  right;intro e2;have hl:=(hb.lt g e2.symm).2
  rcases hn g ha with h1|h1
  ·rcases h with h|h
   ·rw[h] at h1;cases h1
   ·exact h (h1.trans e2)
  ·omega
structure MapI (w:World) (base m vt vM ft fM mb:Nat) (vp vV vF vS vO vP:Value) (s:SSt) (ns:List Str):Prop where
 blk:w.heap[m]?=some (.cells #[vp,.pointer (some ⟨vt,0,none⟩),.pointer (some ⟨ft,0,none⟩),vS,.map (some mb),vO,vP] 112 (0,0))
 vars:TabL w base vt vM vV s.vars
 funs:TabS w base ft fM vF ns
 sites:w.ownsRow base 119 5 vS s.sites.length (s.sites.flatMap Qc)
 by_:w.heap[mb]?=some (Z7 Ve Z4 s.at_)
 of:w.ownsRow base 3 1 vO s.of.length (s.of.map Z4)
 pts:w.ownsRow base 41 3 vP s.pl.length (s.pl.flatMap Kk)
 m1:m<base
 m2:mb<base
 dis:[m,vt,vM,ft,fM,mb].Nodup
 a1:Apart vV vF/\Apart vV vS/\Apart vV vO/\Apart vV vP
 a2:Apart vF vS/\Apart vF vO/\Apart vF vP
 a3:Apart vS vO/\Apart vS vP/\Apart vO vP
def Xn (m vt vM ft fM mb:Nat) (vV vF vS vO vP:Value):Nat->Prop:=fun n=>n=m\/n=vt\/n=vM\/n=ft\/n=fM\/n=mb\/vV.ownBlock=some n\/vF.ownBlock=some n\/vS.ownBlock=some n\/vO.ownBlock=some n\/vP.ownBlock=some n
theorem MapI.chg {w w':World} {base m vt vM ft fM mb:Nat} {vp vV vF vS vO vP:Value} {s:SSt} {ns:List Str} {Q:Nat->Prop} (h:MapI w base m vt vM ft fM mb vp vV vF vS vO vP s ns) (hg:Chg Q w w') (hq:∀ n,Xn m vt vM ft fM mb vV vF vS vO vP n->¬ Q n):MapI w' base m vt vM ft fM mb vp vV vF vS vO vP s ns where
 blk:=hg.at_ h.blk (hq _ (by simp[Xn]))
 vars:=h.vars.chg hg (hq _ (by simp[Xn])) (hq _ (by simp[Xn])) (fun g e=>hq g (by simp[Xn,e]))
 funs:=h.funs.chg hg (hq _ (by simp[Xn])) (hq _ (by simp[Xn])) (fun g e=>hq g (by simp[Xn,e]))
 sites:=hg.owns h.sites (fun g e=>hq g (by simp[Xn,e]))
 by_:=hg.at_ h.by_ (hq _ (by simp[Xn]))
 of:=hg.owns h.of (fun g e=>hq g (by simp[Xn,e]))
 pts:=hg.owns h.pts (fun g e=>hq g (by simp[Xn,e]))
 m1:=h.m1
 m2:=h.m2
 dis:=h.dis
 a1:=h.a1
 a2:=h.a2
 a3:=h.a3
theorem Apart.no {a b:Value} (h:Apart a b) {g:Nat} (hb:b.ownBlock=some g):a.ownBlock≠some g:=by
 rcases h with h|h
 ·rw[h];simp
 ·rw[hb] at h;exact h
theorem MapI.var {w w':World} {base m vt vM ft fM mb:Nat} {vp vV vF vS vO vP vV':Value} {s:SSt} {ns:List Str} (h:MapI w base m vt vM ft fM mb vp vV vF vS vO vP s ns) {k:Nat×Str} (hT:TabL w' base vt vM vV' (Ub s.vars k)) (hc:Chg (Qb vt vM vV) w w')
  (hn:∀ g,vV'.ownBlock=some g->vV.ownBlock=some g\/w.heap.size<=g):MapI w' base m vt vM ft fM mb vp vV' vF vS vO vP (s.var k) ns:=by
 have hd:=h.dis;simp only[List.nodup_cons,List.mem_cons,List.not_mem_nil,or_false,not_or,List.nodup_nil,and_true,not_false_eq_true] at hd;obtain⟨⟨d1,d2,d3,d4,d5⟩,⟨d6,d7,d8,d9⟩,⟨d10,d11,d12⟩,⟨d13,d14⟩,d15⟩:=hd;have fx:∀ n,n<base->n≠vt->n≠vM->¬ Qb vt vM vV n:=fun n h1 h2 h3 e=>by
  rcases e with e|e|e
  ·exact h2 e
  ·exact h3 e
  ·have:=(h.vars.own.lt n e).1;omega
 have rw_:∀ {n:Nat} {e:TypeId} {sz:Nat} {xs:List Value} {r:Value},w.ownsRow base e sz r n xs->Apart vV r->∀ g,r.ownBlock=some g->¬ Qb vt vM vV g:=fun ho ha g hg e=>by
  have h1:=(ho.lt g hg).1;have h2:=h.vars.tb;have h3:=h.vars.mb
  rcases e with e|e|e
  ·omega
  ·omega
  ·exact ha.no hg e
 exact {
  blk:=hc.at_ h.blk (fx m h.m1 d1 d2)
  vars:=hT
  funs:=h.funs.chg hc (fx ft h.funs.tb (fun e=>d7 e.symm) (fun e=>d10 e.symm)) (fx fM h.funs.mb (fun e=>d8 e.symm) (fun e=>d11 e.symm)) (rw_ h.funs.own h.a1.1)
  sites:=hc.owns h.sites (rw_ h.sites h.a1.2.1)
  by_:=hc.at_ h.by_ (fx mb h.m2 (fun e=>d9 e.symm) (fun e=>d12 e.symm))
  of:=hc.owns h.of (rw_ h.of h.a1.2.2.1)
  pts:=hc.owns h.pts (rw_ h.pts h.a1.2.2.2)
  m1:=h.m1
  m2:=h.m2
  dis:=h.dis
  a1:=⟨h.a1.1.turn h.funs.own hn,h.a1.2.1.turn h.sites hn,h.a1.2.2.1.turn h.of hn,h.a1.2.2.2.turn h.pts hn⟩
  a2:=h.a2
  a3:=h.a3 }
theorem MapI.fun_ {w w':World} {base m vt vM ft fM mb:Nat} {vp vV vF vS vO vP vF':Value} {s:SSt} {ns:List Str} (h:MapI w base m vt vM ft fM mb vp vV vF vS vO vP s ns) {k:Str} (hT:TabS w' base ft fM vF' (Ub ns k)) (hc:Chg (Qb ft fM vF) w w')
  (hn:∀ g,vF'.ownBlock=some g->vF.ownBlock=some g\/w.heap.size<=g):MapI w' base m vt vM ft fM mb vp vV vF' vS vO vP s (Ub ns k):=by
 have hd:=h.dis;simp only[List.nodup_cons,List.mem_cons,List.not_mem_nil,or_false,not_or,List.nodup_nil,and_true,not_false_eq_true] at hd;obtain⟨⟨d1,d2,d3,d4,d5⟩,⟨d6,d7,d8,d9⟩,⟨d10,d11,d12⟩,⟨d13,d14⟩,d15⟩:=hd;have fx:∀ n,n<base->n≠ft->n≠fM->¬ Qb ft fM vF n:=fun n h1 h2 h3 e=>by
  rcases e with e|e|e
  ·exact h2 e
  ·exact h3 e
  ·have:=(h.funs.own.lt n e).1;omega
 have rw_:∀ {n:Nat} {e:TypeId} {sz:Nat} {xs:List Value} {r:Value},w.ownsRow base e sz r n xs->Apart vF r->∀ g,r.ownBlock=some g->¬ Qb ft fM vF g:=fun ho ha g hg e=>by
  have h1:=(ho.lt g hg).1;have h2:=h.funs.tb;have h3:=h.funs.mb
  rcases e with e|e|e
  ·omega
  ·omega
  ·exact ha.no hg e
 exact {
  blk:=hc.at_ h.blk (fx m h.m1 d3 d4)
  vars:=h.vars.chg hc (fx vt h.vars.tb d7 d8) (fx vM h.vars.mb d10 d11) (rw_ h.vars.own h.a1.1.symm)
  funs:=hT
  sites:=hc.owns h.sites (rw_ h.sites h.a2.1)
  by_:=hc.at_ h.by_ (fx mb h.m2 (fun e=>d14 e.symm) (fun e=>d15 e.symm))
  of:=hc.owns h.of (rw_ h.of h.a2.2.1)
  pts:=hc.owns h.pts (rw_ h.pts h.a2.2.2)
  m1:=h.m1
  m2:=h.m2
  dis:=h.dis
  a1:=⟨(h.a1.1.symm.turn h.vars.own hn).symm,h.a1.2⟩
  a2:=⟨h.a2.1.turn h.sites hn,h.a2.2.1.turn h.of hn,h.a2.2.2.turn h.pts hn⟩
  a3:=h.a3 }
theorem MapI.put {w:World} {base m vt vM ft fM mb:Nat} {vp vV vF vS vO vP:Value} {s:SSt} {ns:List Str} (h:MapI w base m vt vM ft fM mb vp vV vF vS vO vP s ns) (l:List (GPt×Nat)):MapI (w.putObj mb (Z7 Ve Z4 l)) base m vt vM ft fM mb vp vV vF vS vO vP { s with at_:=l } ns:=by
 have hd:=h.dis;simp only[List.nodup_cons,List.mem_cons,List.not_mem_nil,or_false,not_or,List.nodup_nil,and_true,not_false_eq_true] at hd;obtain⟨⟨d1,d2,d3,d4,d5⟩,⟨d6,d7,d8,d9⟩,⟨d10,d11,d12⟩,⟨d13,d14⟩,d15⟩:=hd;have hc:Chg (fun n=>n=mb) w (w.putObj mb (Z7 Ve Z4 l)):=Chg.turned (Q:=fun n=>n=mb) (Turned.putObj _ mb _) rfl;have ro:∀ {n:Nat} {e:TypeId} {sz:Nat} {xs:List Value} {r:Value},w.ownsRow base e sz r n xs->∀ g,r.ownBlock=some g->¬ g=mb:=fun ho g hg e=>by
  have h1:=(ho.lt g hg).1;have h2:=h.m2;omega
 exact {
  blk:=hc.at_ h.blk d5
  vars:=h.vars.chg hc d9 d12 (ro h.vars.own)
  funs:=h.funs.chg hc d14 d15 (ro h.funs.own)
  sites:=hc.owns h.sites (ro h.sites)
  by_:=Xt h.by_ _
  of:=hc.owns h.of (ro h.of)
  pts:=hc.owns h.pts (ro h.pts)
  m1:=h.m1
  m2:=h.m2
  dis:=h.dis
  a1:=h.a1
  a2:=h.a2
  a3:=h.a3 }
theorem MapI.pushP {w w':World} {base m vt vM ft fM mb:Nat} {vp vV vF vS vO vP v':Value} {s:SSt} {ns:List Str} (h:MapI w base m vt vM ft fM mb vp vV vF vS vO vP s ns) {q:GPt} (hb:w'.heap[m]?=some (.cells #[vp,.pointer (some ⟨vt,0,none⟩),.pointer (some ⟨ft,0,none⟩),vS,.map (some mb),vO,v'] 112 (0,0)))
  (hc:Chg (fun n=>n=m\/vP.ownBlock=some n) w w') (ho:w'.ownsRow base 41 3 v' (s.pt q).pl.length ((s.pt q).pl.flatMap Kk)) (hn:∀ g,v'.ownBlock=some g->vP.ownBlock=some g\/w.heap.size<=g):MapI w' base m vt vM ft fM mb vp vV vF vS vO v' (s.pt q) ns:=by
 have hd:=h.dis;simp only[List.nodup_cons,List.mem_cons,List.not_mem_nil,or_false,not_or,List.nodup_nil,and_true,not_false_eq_true] at hd;obtain⟨⟨d1,d2,d3,d4,d5⟩,-⟩:=hd;have fx:∀ n,n<base->n≠m->¬ (n=m\/vP.ownBlock=some n):=fun n h1 h2 e=>by
  rcases e with e|e
  ·exact h2 e
  ·have:=(h.pts.lt n e).1;omega
 have ro:∀ {n:Nat} {e:TypeId} {sz:Nat} {xs:List Value} {r:Value},w.ownsRow base e sz r n xs->Apart vP r->∀ g,r.ownBlock=some g->¬ (g=m\/vP.ownBlock=some g):=fun ho ha g hg e=>by
  have h1:=(ho.lt g hg).1;have h2:=h.m1
  rcases e with e|e
  ·omega
  ·exact ha.no hg e
 exact {
  blk:=hb
  vars:=h.vars.chg hc (fx vt h.vars.tb (fun e=>d1 e.symm)) (fx vM h.vars.mb (fun e=>d2 e.symm)) (ro h.vars.own (h.a1.2.2.2).symm)
  funs:=h.funs.chg hc (fx ft h.funs.tb (fun e=>d3 e.symm)) (fx fM h.funs.mb (fun e=>d4 e.symm)) (ro h.funs.own (h.a2.2.2).symm)
  sites:=hc.owns h.sites (ro h.sites (h.a3.2.1).symm)
  by_:=hc.at_ h.by_ (fx mb h.m2 (fun e=>d5 e.symm))
  of:=hc.owns h.of (ro h.of (h.a3.2.2).symm)
  pts:=ho
  m1:=h.m1
  m2:=h.m2
  dis:=h.dis
  a1:=⟨h.a1.1,h.a1.2.1,h.a1.2.2.1,(((h.a1.2.2.2).symm).turn h.vars.own hn).symm⟩
  a2:=⟨h.a2.1,h.a2.2.1,(((h.a2.2.2).symm).turn h.funs.own hn).symm⟩
  a3:=⟨h.a3.1,(((h.a3.2.1).symm).turn h.sites hn).symm,(((h.a3.2.2).symm).turn h.of hn).symm⟩ }
theorem MapI.pushS {w w':World} {base m vt vM ft fM mb:Nat} {vp vV vF vS vO vP v':Value} {s:SSt} {ns:List Str} (h:MapI w base m vt vM ft fM mb vp vV vF vS vO vP s ns) {l:List (GPt×Nat×Nat)} (hb:w'.heap[m]?=some (.cells #[vp,.pointer (some ⟨vt,0,none⟩),.pointer (some ⟨ft,0,none⟩),v',.map (some mb),vO,vP] 112 (0,0)))
  (hc:Chg (fun n=>n=m\/vS.ownBlock=some n) w w') (ho:w'.ownsRow base 119 5 v' l.length (l.flatMap Qc)) (hn:∀ g,v'.ownBlock=some g->vS.ownBlock=some g\/w.heap.size<=g):MapI w' base m vt vM ft fM mb vp vV vF v' vO vP ({ s with sites:=l }) ns:=by
 have hd:=h.dis;simp only[List.nodup_cons,List.mem_cons,List.not_mem_nil,or_false,not_or,List.nodup_nil,and_true,not_false_eq_true] at hd;obtain⟨⟨d1,d2,d3,d4,d5⟩,-⟩:=hd;have fx:∀ n,n<base->n≠m->¬ (n=m\/vS.ownBlock=some n):=fun n h1 h2 e=>by
  rcases e with e|e
  ·exact h2 e
  ·have:=(h.sites.lt n e).1;omega
 have ro:∀ {n:Nat} {e:TypeId} {sz:Nat} {xs:List Value} {r:Value},w.ownsRow base e sz r n xs->Apart vS r->∀ g,r.ownBlock=some g->¬ (g=m\/vS.ownBlock=some g):=fun ho ha g hg e=>by
  have h1:=(ho.lt g hg).1;have h2:=h.m1
  rcases e with e|e
  ·omega
  ·exact ha.no hg e
 exact {
  blk:=hb
  vars:=h.vars.chg hc (fx vt h.vars.tb (fun e=>d1 e.symm)) (fx vM h.vars.mb (fun e=>d2 e.symm)) (ro h.vars.own (h.a1.2.1).symm)
  funs:=h.funs.chg hc (fx ft h.funs.tb (fun e=>d3 e.symm)) (fx fM h.funs.mb (fun e=>d4 e.symm)) (ro h.funs.own (h.a2.1).symm)
  sites:=ho
  by_:=hc.at_ h.by_ (fx mb h.m2 (fun e=>d5 e.symm))
  of:=hc.owns h.of (ro h.of h.a3.1)
  pts:=hc.owns h.pts (ro h.pts h.a3.2.1)
  m1:=h.m1
  m2:=h.m2
  dis:=h.dis
  a1:=⟨h.a1.1,(((h.a1.2.1).symm).turn h.vars.own hn).symm,h.a1.2.2.1,h.a1.2.2.2⟩
  a2:=⟨(((h.a2.1).symm).turn h.funs.own hn).symm,h.a2.2.1,h.a2.2.2⟩
  a3:=⟨(h.a3.1).turn h.of hn,(h.a3.2.1).turn h.pts hn,h.a3.2.2⟩ }
theorem MapI.pushO {w w':World} {base m vt vM ft fM mb:Nat} {vp vV vF vS vO vP v':Value} {s:SSt} {ns:List Str} (h:MapI w base m vt vM ft fM mb vp vV vF vS vO vP s ns) {l:List Nat} (hb:w'.heap[m]?=some (.cells #[vp,.pointer (some ⟨vt,0,none⟩),.pointer (some ⟨ft,0,none⟩),vS,.map (some mb),v',vP] 112 (0,0)))
  (hc:Chg (fun n=>n=m\/vO.ownBlock=some n) w w') (ho:w'.ownsRow base 3 1 v' l.length (l.map Z4)) (hn:∀ g,v'.ownBlock=some g->vO.ownBlock=some g\/w.heap.size<=g):MapI w' base m vt vM ft fM mb vp vV vF vS v' vP ({ s with of:=l }) ns:=by
 have hd:=h.dis;simp only[List.nodup_cons,List.mem_cons,List.not_mem_nil,or_false,not_or,List.nodup_nil,and_true,not_false_eq_true] at hd;obtain⟨⟨d1,d2,d3,d4,d5⟩,-⟩:=hd;have fx:∀ n,n<base->n≠m->¬ (n=m\/vO.ownBlock=some n):=fun n h1 h2 e=>by
  rcases e with e|e
  ·exact h2 e
  ·have:=(h.of.lt n e).1;omega
 have ro:∀ {n:Nat} {e:TypeId} {sz:Nat} {xs:List Value} {r:Value},w.ownsRow base e sz r n xs->Apart vO r->∀ g,r.ownBlock=some g->¬ (g=m\/vO.ownBlock=some g):=fun ho ha g hg e=>by
  have h1:=(ho.lt g hg).1;have h2:=h.m1
  rcases e with e|e
  ·omega
  ·exact ha.no hg e
 exact {
  blk:=hb
  vars:=h.vars.chg hc (fx vt h.vars.tb (fun e=>d1 e.symm)) (fx vM h.vars.mb (fun e=>d2 e.symm)) (ro h.vars.own (h.a1.2.2.1).symm)
  funs:=h.funs.chg hc (fx ft h.funs.tb (fun e=>d3 e.symm)) (fx fM h.funs.mb (fun e=>d4 e.symm)) (ro h.funs.own (h.a2.2.1).symm)
  sites:=hc.owns h.sites (ro h.sites (h.a3.1).symm)
  by_:=hc.at_ h.by_ (fx mb h.m2 (fun e=>d5 e.symm))
  of:=ho
  pts:=hc.owns h.pts (ro h.pts h.a3.2.2)
  m1:=h.m1
  m2:=h.m2
  dis:=h.dis
  a1:=⟨h.a1.1,h.a1.2.1,(((h.a1.2.2.1).symm).turn h.vars.own hn).symm,h.a1.2.2.2⟩
  a2:=⟨h.a2.1,(((h.a2.2.1).symm).turn h.funs.own hn).symm,h.a2.2.2⟩
  a3:=⟨(((h.a3.1).symm).turn h.sites hn).symm,h.a3.2.1,(h.a3.2.2).turn h.pts hn⟩ }
end
section
open Go.RowKit Go.Shelf
structure MAd where
 m:Nat
 vt:Nat
 vM:Nat
 ft:Nat
 fM:Nat
 mb:Nat
structure Rw where
 vV:Value
 vF:Value
 vS:Value
 vO:Value
 vP:Value
def MQ (a:MAd) (r:Rw):Nat->Prop:=Xn a.m a.vt a.vM a.ft a.fM a.mb r.vV r.vF r.vS r.vO r.vP
abbrev rw0:Rw:=⟨.slice none 0 0,.slice none 0 0,.slice none 0 0,.slice none 0 0,.slice none 0 0⟩
def Nx (w:World) (v v':Value):Prop:=∀ g,v'.ownBlock=some g->v.ownBlock=some g\/w.heap.size<=g
theorem Nx.refl (w:World) (v:Value):Nx w v v:=fun _ h=>.inl h
theorem Nx.trans {w w':World} {a b c:Value} (h:Nx w a b) (k:Nx w' b c) (hs:w.heap.size<=w'.heap.size):Nx w a c:=fun g e=>by
 rcases k g e with e|e
 ·exact h g e
 ·exact .inr (Nat.le_trans hs e)
structure Made (w0:World) (r0:Rw) (base:Nat) (a:MAd) (vp:Value) (w:World) (r:Rw) (s:SSt) (ns:List Str):Prop where
 mi:MapI w base a.m a.vt a.vM a.ft a.fM a.mb vp r.vV r.vF r.vS r.vO r.vP s ns
 chg:Chg (MQ a r0) w0 w
 nV:Nx w0 r0.vV r.vV
 nF:Nx w0 r0.vF r.vF
 nS:Nx w0 r0.vS r.vS
 nO:Nx w0 r0.vO r.vO
 nP:Nx w0 r0.vP r.vP
variable {w0 w w':World} {r0 r:Rw} {base:Nat} {a:MAd} {vp:Value} {s:SSt} {ns:List Str}
theorem Made.start (h:MapI w base a.m a.vt a.vM a.ft a.fM a.mb vp r.vV r.vF r.vS r.vO r.vP s ns):Made w r base a vp w r s ns:=⟨h,.refl _ _,.refl _ _,.refl _ _,.refl _ _,.refl _ _,.refl _ _⟩
theorem Made.keep {Q:Nat->Prop} (h:Made w0 r0 base a vp w r s ns) (hc:Chg Q w w') (h1:∀ n,MQ a r n->¬ Q n) (h2:∀ n,n<w0.heap.size->¬ Q n):Made w0 r0 base a vp w' r s ns:=
 ⟨h.mi.chg hc h1,h.chg.trans hc (fun n hn e=>absurd e (h2 n hn)),h.nV,h.nF,h.nS,h.nO,h.nP⟩
theorem Made.alloc (h:Made w0 r0 base a vp w r s ns) (o:Obj):Made w0 r0 base a vp (w.alloc o) r s ns:=h.keep (Q:=fun _=>False) (.alloc _ _ _) (fun _ _ e=>e) (fun _ _ e=>e)
theorem Made.var {k:Nat×Str} {v':Value} (h:Made w0 r0 base a vp w r s ns) (hT:TabL w' base a.vt a.vM v' (Ub s.vars k)) (hc:Chg (Qb a.vt a.vM r.vV) w w')
  (hn:Nx w r.vV v'):Made w0 r0 base a vp w' { r with vV:=v' } (s.var k) ns:=
 ⟨h.mi.var hT hc hn,h.chg.trans hc (fun n hl e=>by
  rcases e with e|e|e
  ·simp[MQ,Xn,e]
  ·simp[MQ,Xn,e]
  ·rcases h.nV n e with e|e
   ·simp[MQ,Xn,e]
   ·omega),h.nV.trans hn h.chg.size,h.nF,h.nS,h.nO,h.nP⟩
theorem Made.fun_ {k:Str} {v':Value} (h:Made w0 r0 base a vp w r s ns) (hT:TabS w' base a.ft a.fM v' (Ub ns k)) (hc:Chg (Qb a.ft a.fM r.vF) w w')
  (hn:Nx w r.vF v'):Made w0 r0 base a vp w' { r with vF:=v' } s (Ub ns k):=
 ⟨h.mi.fun_ hT hc hn,h.chg.trans hc (fun n hl e=>by
  rcases e with e|e|e
  ·simp[MQ,Xn,e]
  ·simp[MQ,Xn,e]
  ·rcases h.nF n e with e|e
   ·simp[MQ,Xn,e]
   ·omega),h.nV,h.nF.trans hn h.chg.size,h.nS,h.nO,h.nP⟩
theorem Made.put (h:Made w0 r0 base a vp w r s ns) (l:List (GPt×Nat)):Made w0 r0 base a vp (w.putObj a.mb (Z7 Ve Z4 l)) r { s with at_:=l } ns:=
 ⟨h.mi.put l,h.chg.trans (Chg.turned (Q:=fun n=>n=a.mb) (Turned.putObj _ a.mb _) rfl) (fun n hl e=>by simp[MQ,Xn,show n=a.mb from e]),h.nV,h.nF,h.nS,h.nO,h.nP⟩
theorem Made.pushP {q:GPt} {v':Value} (h:Made w0 r0 base a vp w r s ns) (hb:w'.heap[a.m]?=some (.cells #[vp,.pointer (some ⟨a.vt,0,none⟩),.pointer (some ⟨a.ft,0,none⟩),r.vS,.map (some a.mb),r.vO,v'] 112 (0,0)))
  (hc:Chg (fun n=>n=a.m\/r.vP.ownBlock=some n) w w') (ho:w'.ownsRow base 41 3 v' (s.pt q).pl.length ((s.pt q).pl.flatMap Kk)) (hn:Nx w r.vP v'):Made w0 r0 base a vp w' { r with vP:=v' } (s.pt q) ns:=
 ⟨h.mi.pushP hb hc ho hn,h.chg.trans hc (fun n hl e=>by
  rcases e with e|e
  ·simp[MQ,Xn,e]
  ·rcases h.nP n e with e|e
   ·simp[MQ,Xn,e]
   ·omega),h.nV,h.nF,h.nS,h.nO,h.nP.trans hn h.chg.size⟩
theorem Made.pushS {l:List (GPt×Nat×Nat)} {v':Value} (h:Made w0 r0 base a vp w r s ns) (hb:w'.heap[a.m]?=some (.cells #[vp,.pointer (some ⟨a.vt,0,none⟩),.pointer (some ⟨a.ft,0,none⟩),v',.map (some a.mb),r.vO,r.vP] 112 (0,0)))
  (hc:Chg (fun n=>n=a.m\/r.vS.ownBlock=some n) w w') (ho:w'.ownsRow base 119 5 v' l.length (l.flatMap Qc)) (hn:Nx w r.vS v'):Made w0 r0 base a vp w' { r with vS:=v' } { s with sites:=l } ns:=
 ⟨h.mi.pushS hb hc ho hn,h.chg.trans hc (fun n hl e=>by
  rcases e with e|e
  ·simp[MQ,Xn,e]
  ·rcases h.nS n e with e|e
   ·simp[MQ,Xn,e]
   ·omega),h.nV,h.nF,h.nS.trans hn h.chg.size,h.nO,h.nP⟩
theorem Made.pushO {l:List Nat} {v':Value} (h:Made w0 r0 base a vp w r s ns) (hb:w'.heap[a.m]?=some (.cells #[vp,.pointer (some ⟨a.vt,0,none⟩),.pointer (some ⟨a.ft,0,none⟩),r.vS,.map (some a.mb),v',r.vP] 112 (0,0)))
  (hc:Chg (fun n=>n=a.m\/r.vO.ownBlock=some n) w w') (ho:w'.ownsRow base 3 1 v' l.length (l.map Z4)) (hn:Nx w r.vO v'):Made w0 r0 base a vp w' { r with vO:=v' } { s with of:=l } ns:=
 ⟨h.mi.pushO hb hc ho hn,h.chg.trans hc (fun n hl e=>by
  rcases e with e|e
  ·simp[MQ,Xn,e]
  ·rcases h.nO n e with e|e
   ·simp[MQ,Xn,e]
   ·omega),h.nV,h.nF,h.nS,h.nO.trans hn h.chg.size,h.nP⟩
theorem Made.at_ {n:Nat} {o:Obj} (h:Made w0 r0 base a vp w r s ns) (hn:w0.heap[n]?=some o) (hq:¬ MQ a r0 n):w.heap[n]?=some o:=h.chg.at_ hn hq
theorem Made.join {w1:World} {r1:Rw} {s1:SSt} {ns1:List Str} (h:Made w0 r0 base a vp w1 r1 s1 ns1) (k:Made w1 r1 base a vp w r s ns):Made w0 r0 base a vp w r s ns:=
 ⟨k.mi,h.chg.trans k.chg (fun n hn e=>by
  have t:=h.nV n
  have t2:=h.nF n
  have t3:=h.nS n
  have t4:=h.nO n
  have t5:=h.nP n
  simp only[MQ,Xn] at e ⊢
  rcases e with e|e|e|e|e|e|e|e|e|e|e
  ·simp[e]
  ·simp[e]
  ·simp[e]
  ·simp[e]
  ·simp[e]
  ·simp[e]
  ·rcases t e with e|e
   ·simp[e]
   ·omega
  ·rcases t2 e with e|e
   ·simp[e]
   ·omega
  ·rcases t3 e with e|e
   ·simp[e]
   ·omega
  ·rcases t4 e with e|e
   ·simp[e]
   ·omega
  ·rcases t5 e with e|e
   ·simp[e]
   ·omega),h.nV.trans k.nV h.chg.size,h.nF.trans k.nF h.chg.size,h.nS.trans k.nS h.chg.size,h.nO.trans k.nO h.chg.size,h.nP.trans k.nP h.chg.size⟩
theorem MapI.lt {ns:List Str} (h:MapI w base a.m a.vt a.vM a.ft a.fM a.mb vp r.vV r.vF r.vS r.vO r.vP s ns) {n:Nat} (hn:MQ a r n):n<w.heap.size:=by
 rcases hn with e|e|e|e|e|e|e|e|e|e|e
 ·exact e▸Ze h.blk
 ·exact e▸Ze h.vars.blk
 ·exact e▸Ze h.vars.map
 ·exact e▸Ze h.funs.blk
 ·exact e▸Ze h.funs.map
 ·exact e▸Ze h.by_
 ·exact (h.vars.own.lt n e).2
 ·exact (h.funs.own.lt n e).2
 ·exact (h.sites.lt n e).2
 ·exact (h.of.lt n e).2
 ·exact (h.pts.lt n e).2
theorem Made.old (h:Made w0 r0 base a vp w r s ns) {n:Nat} (hn:n<w0.heap.size) (hq:¬ MQ a r0 n):¬ MQ a r n:=fun e=>hq (by
 have t:=h.nV n
 have t2:=h.nF n
 have t3:=h.nS n
 have t4:=h.nO n
 have t5:=h.nP n
 simp only[MQ,Xn] at e ⊢
 rcases e with e|e|e|e|e|e|e|e|e|e|e
 ·simp[e]
 ·simp[e]
 ·simp[e]
 ·simp[e]
 ·simp[e]
 ·simp[e]
 ·rcases t e with e|e
  ·simp[e]
  ·omega
 ·rcases t2 e with e|e
  ·simp[e]
  ·omega
 ·rcases t3 e with e|e
  ·simp[e]
  ·omega
 ·rcases t4 e with e|e
  ·simp[e]
  ·omega
 ·rcases t5 e with e|e
  ·simp[e]
  ·omega)
theorem MapI.kind {ns:List Str} (h:MapI w base a.m a.vt a.vM a.ft a.fM a.mb vp r.vV r.vF r.vS r.vO r.vP s ns) {n:Nat} (hn:MQ a r n):∃ o,w.heap[n]?=some o/\(∀ x,o≠.deferred x)/\(base<=n->o.isCells=true):=by
 have own:∀ {m:Nat} {e:TypeId} {sz:Nat} {xs:List Value} {v:Value},w.ownsRow base e sz v m xs->v.ownBlock=some n->∃ o,w.heap[n]?=some o/\(∀ x,o≠.deferred x)/\(base<=n->o.isCells=true):=fun ho hv=>by
  obtain⟨_,h2⟩:=ho
  rcases h2 with ⟨h2,_⟩|⟨g,cap,cur,h3,hb,hh,r⟩
  ·rw[h2] at hv;cases hv
  ·rw[h3] at hv;simp only[Value.ownBlock,Option.map_some,Option.some.injEq] at hv;subst hv;exact⟨_,hh,fun x e=>(by cases e),fun _=>rfl⟩
 have nm1:=h.m1;have nm2:=h.m2;have nv:=h.vars.tb;have nv2:=h.vars.mb;have nf:=h.funs.tb;have nf2:=h.funs.mb
 rcases hn with e|e|e|e|e|e|e|e|e|e|e
 ·exact⟨_,e▸h.blk,fun x e=>(by cases e),fun _=>by omega⟩
 ·exact⟨_,e▸h.vars.blk,fun x e=>(by cases e),fun _=>by omega⟩
 ·exact⟨_,e▸h.vars.map,fun x e=>(by cases e),fun _=>by omega⟩
 ·exact⟨_,e▸h.funs.blk,fun x e=>(by cases e),fun _=>by omega⟩
 ·exact⟨_,e▸h.funs.map,fun x e=>(by cases e),fun _=>by omega⟩
 ·exact⟨_,e▸h.by_,fun x e=>(by cases e),fun _=>by omega⟩
 ·exact own h.vars.own e
 ·exact own h.funs.own e
 ·exact own h.sites e
 ·exact own h.of e
 ·exact own h.pts e
theorem Made.rowP {w2 w3:World} {q:GPt} {v':Value} (h:Made w0 r0 base a vp w r s ns) (h2:w.grownBy w2 none) (h3:w2.grownBy w3 r.vP.ownBlock) (ho:w3.ownsRow base 41 3 v' (s.pl.length+1) (s.pl.flatMap Kk++Kk q)) (hor:∀ g,v'.ownBlock=some g->r.vP.ownBlock=some g\/w2.heap.size<=g):
  w3.heap[a.m]?=some (.cells #[vp,.pointer (some ⟨a.vt,0,none⟩),.pointer (some ⟨a.ft,0,none⟩),r.vS,.map (some a.mb),r.vO,r.vP] 112 (0,0))/\Made w0 r0 base a vp (w3.setCell ⟨a.m,6,none⟩ v') { r with vP:=v' } (s.pt q) ns:=by
 have hm:=h.mi.m1;have hne:∀ g,r.vP.ownBlock=some g->g≠a.m:=fun g e=>by have:=(h.mi.pts.lt g e).1;omega
 have hb3:w3.heap[a.m]?=some (.cells #[vp,.pointer (some ⟨a.vt,0,none⟩),.pointer (some ⟨a.ft,0,none⟩),r.vS,.map (some a.mb),r.vO,r.vP] 112 (0,0)):=
  (h3.block a.m (by have:=h2.size;have:=Ze h.mi.blk;omega) (fun e=>hne _ e.symm rfl)).trans ((h2.block a.m (Ze h.mi.blk) (by simp)).trans h.mi.blk)
 have hcs:Chg (fun n=>n=a.m) w3 (w3.setCell ⟨a.m,6,none⟩ v'):=Chg.set (Q:=fun n=>n=a.m) w3 (p:=⟨a.m,6,none⟩) rfl v';have hc:Chg (fun n=>n=a.m\/r.vP.ownBlock=some n) w (w3.setCell ⟨a.m,6,none⟩ v'):=
  ((Chg.grown (Q:=fun n=>n=a.m\/r.vP.ownBlock=some n) h2 (fun r e=>by cases e)).trans (Chg.grown (Q:=fun n=>n=a.m\/r.vP.ownBlock=some n) h3 (fun r e=>.inr e)) (fun _ _ e=>e)).trans hcs (fun _ _ e=>.inl e)
 have h4:=hcs.owns ho (fun g e he=>by have:=(ho.lt g e).1;omega);refine⟨hb3,h.pushP (by simpa using Zs hb3 6 v') hc (by simpa [SSt.pt,List.flatMap_append] using h4) fun g e=>?_⟩
 rcases hor g e with e|e
 ·exact .inl e
 ·exact .inr (Nat.le_trans h2.size e)
theorem Made.rowS {w2 w3:World} {q:GPt×Nat×Nat} {v':Value} (h:Made w0 r0 base a vp w r s ns) (h2:w.grownBy w2 none) (h3:w2.grownBy w3 r.vS.ownBlock) (ho:w3.ownsRow base 119 5 v' (s.sites.length+1) (s.sites.flatMap Qc++Qc q)) (hor:∀ g,v'.ownBlock=some g->r.vS.ownBlock=some g\/w2.heap.size<=g):
  w3.heap[a.m]?=some (.cells #[vp,.pointer (some ⟨a.vt,0,none⟩),.pointer (some ⟨a.ft,0,none⟩),r.vS,.map (some a.mb),r.vO,r.vP] 112 (0,0))/\Made w0 r0 base a vp (w3.setCell ⟨a.m,3,none⟩ v') { r with vS:=v' } { s with sites:=s.sites++[q] } ns:=by
 have hm:=h.mi.m1;have hne:∀ g,r.vS.ownBlock=some g->g≠a.m:=fun g e=>by have:=(h.mi.sites.lt g e).1;omega
 have hb3:w3.heap[a.m]?=some (.cells #[vp,.pointer (some ⟨a.vt,0,none⟩),.pointer (some ⟨a.ft,0,none⟩),r.vS,.map (some a.mb),r.vO,r.vP] 112 (0,0)):=
  (h3.block a.m (by have:=h2.size;have:=Ze h.mi.blk;omega) (fun e=>hne _ e.symm rfl)).trans ((h2.block a.m (Ze h.mi.blk) (by simp)).trans h.mi.blk)
 have hcs:Chg (fun n=>n=a.m) w3 (w3.setCell ⟨a.m,3,none⟩ v'):=Chg.set (Q:=fun n=>n=a.m) w3 (p:=⟨a.m,3,none⟩) rfl v';have hc:Chg (fun n=>n=a.m\/r.vS.ownBlock=some n) w (w3.setCell ⟨a.m,3,none⟩ v'):=
  ((Chg.grown (Q:=fun n=>n=a.m\/r.vS.ownBlock=some n) h2 (fun r e=>by cases e)).trans (Chg.grown (Q:=fun n=>n=a.m\/r.vS.ownBlock=some n) h3 (fun r e=>.inr e)) (fun _ _ e=>e)).trans hcs (fun _ _ e=>.inl e)
 have h4:=hcs.owns ho (fun g e he=>by have:=(ho.lt g e).1;omega);refine⟨hb3,h.pushS (by simpa using Zs hb3 3 v') hc (by simpa [List.flatMap_append] using h4) fun g e=>?_⟩
 rcases hor g e with e|e
 ·exact .inl e
 ·exact .inr (Nat.le_trans h2.size e)
theorem Made.rowO {w2 w3:World} {q:Nat} {v':Value} (h:Made w0 r0 base a vp w r s ns) (h2:w.grownBy w2 none) (h3:w2.grownBy w3 r.vO.ownBlock) (ho:w3.ownsRow base 3 1 v' (s.of.length+1) (s.of.map Z4++[Z4 q])) (hor:∀ g,v'.ownBlock=some g->r.vO.ownBlock=some g\/w2.heap.size<=g):
  w3.heap[a.m]?=some (.cells #[vp,.pointer (some ⟨a.vt,0,none⟩),.pointer (some ⟨a.ft,0,none⟩),r.vS,.map (some a.mb),r.vO,r.vP] 112 (0,0))/\Made w0 r0 base a vp (w3.setCell ⟨a.m,5,none⟩ v') { r with vO:=v' } { s with of:=s.of++[q] } ns:=by
 have hm:=h.mi.m1;have hne:∀ g,r.vO.ownBlock=some g->g≠a.m:=fun g e=>by have:=(h.mi.of.lt g e).1;omega
 have hb3:w3.heap[a.m]?=some (.cells #[vp,.pointer (some ⟨a.vt,0,none⟩),.pointer (some ⟨a.ft,0,none⟩),r.vS,.map (some a.mb),r.vO,r.vP] 112 (0,0)):=
  (h3.block a.m (by have:=h2.size;have:=Ze h.mi.blk;omega) (fun e=>hne _ e.symm rfl)).trans ((h2.block a.m (Ze h.mi.blk) (by simp)).trans h.mi.blk)
 have hcs:Chg (fun n=>n=a.m) w3 (w3.setCell ⟨a.m,5,none⟩ v'):=Chg.set (Q:=fun n=>n=a.m) w3 (p:=⟨a.m,5,none⟩) rfl v';have hc:Chg (fun n=>n=a.m\/r.vO.ownBlock=some n) w (w3.setCell ⟨a.m,5,none⟩ v'):=
  ((Chg.grown (Q:=fun n=>n=a.m\/r.vO.ownBlock=some n) h2 (fun r e=>by cases e)).trans (Chg.grown (Q:=fun n=>n=a.m\/r.vO.ownBlock=some n) h3 (fun r e=>.inr e)) (fun _ _ e=>e)).trans hcs (fun _ _ e=>.inl e)
 have h4:=hcs.owns ho (fun g e he=>by have:=(ho.lt g e).1;omega);refine⟨hb3,h.pushO (by simpa using Zs hb3 5 v') hc (by simpa using h4) fun g e=>?_⟩
 rcases hor g e with e|e
 ·exact .inl e
 ·exact .inr (Nat.le_trans h2.size e)
theorem MapI.rows {base':Nat} {r':Rw} {s':SSt} {ns':List Str} (h:MapI w base a.m a.vt a.vM a.ft a.fM a.mb vp r.vV r.vF r.vS r.vO r.vP s ns) (h':MapI w base' a.m a.vt a.vM a.ft a.fM a.mb vp r'.vV r'.vF r'.vS r'.vO r'.vP s' ns'):r'=r:=by
 have e1:=h.blk.symm.trans h'.blk;have e2:=h.vars.blk.symm.trans h'.vars.blk;have e3:=h.funs.blk.symm.trans h'.funs.blk;simp at e1 e2 e3
 cases r
 cases r'
 simp_all
theorem Made.own (hB:base<=w0.heap.size) {X:Nat} (hX:base<=X) {row:Option Nat} (h:Made w0 r0 base a vp w r s ns) (hg:w.grownBy w' row) (hr:∀ k,row=some k->X<=k/\w0.heap.size<=k/\∃ o:Obj,w.heap[k]?=some o/\o.isCells=false):Made w0 r0 base a vp w' r s ns:=
 h.keep (Q:=fun n=>row=some n) (Chg.grown hg (fun r e=>e)) (fun n hn e=>by
  obtain⟨h1,_,o,ho,hc⟩:=hr n e
  obtain⟨o',ho',_,hk⟩:=h.mi.kind hn
  rw[ho] at ho'
  cases ho'
  rw[hk (Nat.le_trans hX h1)] at hc
  cases hc) (fun n hn e=>by have:=(hr n e).2.1;omega)
theorem MapI.ge {ns:List Str} (h:MapI w base a.m a.vt a.vM a.ft a.fM a.mb vp r.vV r.vF r.vS r.vO r.vP s ns) {n:Nat} (hn:MQ a r n):(n=a.m\/n=a.vt\/n=a.vM\/n=a.ft\/n=a.fM\/n=a.mb)\/base<=n:=by
 rcases hn with e|e|e|e|e|e|e|e|e|e|e
 ·exact .inl (.inl e)
 ·exact .inl (.inr (.inl e))
 ·exact .inl (.inr (.inr (.inl e)))
 ·exact .inl (.inr (.inr (.inr (.inl e))))
 ·exact .inl (.inr (.inr (.inr (.inr (.inl e)))))
 ·exact .inl (.inr (.inr (.inr (.inr (.inr e)))))
 ·exact .inr (h.vars.own.lt n e).1
 ·exact .inr (h.funs.own.lt n e).1
 ·exact .inr (h.sites.lt n e).1
 ·exact .inr (h.of.lt n e).1
 ·exact .inr (h.pts.lt n e).1
theorem Made.round {s1:SSt} {ns1:List Str} (hB:base<=w0.heap.size) {B cb:Nat} (h:Made w0 r0 base a vp w r s ns) {X:Nat} (hX:base<=X) (hi:MapI w0 base a.m a.vt a.vM a.ft a.fM a.mb vp r0.vV r0.vF r0.vS r0.vO r0.vP s1 ns1) (hlo:∀ n,n<B->¬ MQ a r0 n) (hBs:B<=w0.heap.size) (hcb:¬ MQ a r0 cb) (hcl:cb<w0.heap.size):KeepsFrom X w0 w/\KpB B cb w0 w:=
 ⟨⟨h.chg.size,fun k o hk ho hc=>by
  by_cases e:MQ a r0 k
  ·obtain⟨o',ho',_,hk'⟩:=hi.kind e
   rw[ho] at ho'
   cases ho'
   rw[hk' (Nat.le_trans hX hk)] at hc
   cases hc
  ·exact h.chg.at_ ho e⟩,
  ⟨h.chg.os,h.chg.tape,h.chg.output,h.chg.size,fun n hn=>h.chg.block n (Lm hn hBs) (hlo n hn)⟩,h.chg.block cb hcl hcb⟩
end

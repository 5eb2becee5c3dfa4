/- The contracts of slices. Conditions in it. -/
import Derived.Test.YtlcogjllnbfneaaGreatESli
set_option maxHeartbeats 1000000
set_option maxRecDepth 100000
set_option linter.all false
namespace Go.Proofs.YtlcogjllnbfneaaGreat
open Lib(hid)
open Go.RowKit
theorem Zgd {α:Type} (p:α->Bool) (l:List α):(∀ x∈l,p x=false)/\idxOf p l= -1\/∃ j x,l[j]?=some x/\p x=true/\(∀ i,i<j->∀ y,l[i]?=some y->p y=false)/\idxOf p l=(j:Nat):=by
 unfold idxOf
 cases h:l.findIdx? p with
 |none=>exact .inl ⟨by simpa using h,rfl⟩
 |some j=>
  obtain⟨hj,h1,h2⟩:=List.findIdx?_eq_some_iff_getElem.1 h
  exact .inr ⟨j,l[j],Ld hj,h1,fun i hi y hy=>by
   obtain⟨hil,e⟩:=Le hy
   have:=h2 i hi
   rw[e] at this
   simpa using this,rfl⟩
def Zad (p:Str->Bool) (l:List Str) (j:Nat):List Str:=(l.take j).filter (fun x=> !p x)++l.drop ((l.take j).filter (fun x=> !p x)).length
theorem some_1 (s:Str) (w:World) (hs:s.length<=9223372036854775807):
  Calls Tryz.prog 229 #[.string ⟨s.toArray⟩] w fun e w'=>e=.returned (.bool (s.isEmpty||s == Q2))/\w=w':=by
 unfold Q2;go_enter Tryz.func229,Tryz.ntmps229
 cases h1:s.isEmpty with
 |true=>
  go_wp2;go_ret;exact⟨rfl,rfl⟩
 |false=>
  cases h2:s == [110,117,108,108] with
  |true=>
   go_wp2;go_ret;exact⟨rfl,rfl⟩
  |false=>
   go_wp2;go_ret;exact⟨rfl,rfl⟩
theorem Zhr:∀ args w,(callFunc 229 args).run Tryz.prog w=.ok (.enter 229 args) w:=enters_of Tryz.func229 (by kernel_rfl) rfl
theorem Zue {p:Str->Bool} {l:List Str} {j:Nat} {x:Str} (hx:l[j]?=some x):(Zad p l j)[j]?=some x:=by
 have h1:=List.length_filter_le (fun x=> !p x) (l.take j);have hj:=(Le hx).1;have h2:(l.take j).length=j:=by simp;omega
 unfold Zad;rw[List.getElem?_append_right (by omega),List.getElem?_drop,show ((l.take j).filter fun x=> !p x).length+(j-((l.take j).filter fun x=> !p x).length)=j by omega];exact hx
theorem Zik {p:Str->Bool} {l:List Str} {j:Nat} {x:Str} (hx:l[j]?=some x) (hp:p x=true):Zad p l (j+1)=Zad p l j:=by
 have:(l.take (j+1)).filter (fun x=> !p x)=(l.take j).filter (fun x=> !p x):=by
  rw[List.take_add_one,hx];simp[hp]
 unfold Zad;rw[this]
theorem Zrn {p:Str->Bool} {l:List Str} {j:Nat} {x:Str} (hx:l[j]?=some x) (hp:p x=false):(Zad p l j).set ((l.take j).filter fun x=> !p x).length x=Zad p l (j+1)/\((l.take (j+1)).filter fun x=> !p x).length=((l.take j).filter fun x=> !p x).length+1:=by
 have h1:=List.length_filter_le (fun x=> !p x) (l.take j);have hj:=(Le hx).1;have h2:(l.take j).length=j:=by simp;omega
 have h3:(l.take (j+1)).filter (fun x=> !p x)=(l.take j).filter (fun x=> !p x)++[x]:=by
  rw[List.take_add_one,hx];simp[hp]
 refine⟨?_,by rw[h3];simp⟩;unfold Zad;rw[h3,List.set_append_right _ _ (Nat.le_refl _),Nat.sub_self,List.length_append,List.length_singleton,List.append_assoc]
 congr 1
 rw[List.drop_eq_getElem_cons (by omega),Lh];rfl
theorem Zcf (b:Nat) (e:TypeId):∀ (vs:List Value) (o:Nat) (w:World) (cur:Array Value),w.heap[b]?=some (.cells cur e (0,0))->
  ∃ cur',(w.setCells b o vs).heap[b]?=some (.cells cur' e (0,0))/\cur'.size=cur.size/\(∀ j,j<o->cur'[j]?=cur[j]?)/\w.grownBy (w.setCells b o vs) (some b)
 |[],o,w,cur,h=>⟨cur,h,rfl,fun _ _=>rfl,Lb _ _⟩
 |v::vs,o,w,cur,h=>by
  obtain⟨cur',h1,h2,h3,h4⟩:=Zcf b e vs (o+1) (w.setCell ⟨b,o,none⟩ v) (cur.setIfInBounds o v) (Vr h o v);refine⟨cur',h1,by simpa using h2,fun j hj=>?_,Zb (Zn (Lb _ _) rfl _) h4⟩;rw[h3 j (by omega),Array.getElem?_setIfInBounds,if_neg (by omega)]
theorem Zvt {w:World} {base b n c i:Nat} {e:TypeId} {xs:List Value} {v:Value} (h:w.ownsRow base e 1 (.slice (some ⟨b,0,none⟩) n c) n xs) (hi:i<n):
  (w.setCell ⟨b,i,none⟩ v).ownsRow base e 1 (.slice (some ⟨b,0,none⟩) n c) n (xs.set i v):=by
 obtain⟨h1,h2⟩:=h
 rcases h2 with ⟨h0,_⟩|⟨g,cap,cur,hv,hb,hh,h3,h4,h5,h6⟩
 ·cases h0
 ·cases hv
  refine⟨by simpa using h1,.inr ⟨b,c,cur.setIfInBounds i v,rfl,hb,Vr hh i v,h3,h4,by simpa using h5,?_⟩⟩;rw[Array.toList_setIfInBounds,List.take_set,h6]
theorem Zpd {w:World} {base b n c m:Nat} {e:TypeId} {xs:List Value} {vs:List Value} (h:w.ownsRow base e 1 (.slice (some ⟨b,0,none⟩) n c) n xs) (hm:m<=n):
  (w.setCells b m vs).ownsRow base e 1 (.slice (some ⟨b,0,none⟩) m c) m (xs.take m)/\w.grownBy (w.setCells b m vs) (some b):=by
 obtain⟨h1,h2⟩:=h
 rcases h2 with ⟨h0,_⟩|⟨g,cap,cur,hv,hb,hh,h3,h4,h5,h6⟩
 ·cases h0
 ·cases hv
  obtain⟨cur',k1,k2,k3,k4⟩:=Zcf b e vs m w cur hh;refine⟨⟨by simp;omega,.inr ⟨b,c,cur',rfl,hb,k1,by omega,h4,by omega,?_⟩⟩,k4⟩;rw[<-h6,List.take_take,Nat.min_eq_left (by omega)]
  apply List.ext_getElem?
  intro j
  by_cases hj:j<m
  ·rw[List.getElem?_take_of_lt (by omega),List.getElem?_take_of_lt (by omega),Array.getElem?_toList,Array.getElem?_toList,k3 j hj]
  ·rw[List.getElem?_take_eq_none (by omega),List.getElem?_take_eq_none (by omega)]
theorem Zfp (v:Value) (l:List Str) (g:Nat) (w:World) (base:Nat) (p:Str->Bool) (hl2:∀ s∈l,s.length<=9223372036854775807) (ho:w.ownsRow base 9 1 v l.length (l.map encS)) (hb:base<=w.heap.size)
  (eg:∀ args w,(callFunc g args).run Tryz.prog w=.ok (.enter g args) w)
  (hp:∀ (x:Str) (W:World),x.length<=9223372036854775807->Calls Tryz.prog g #[.string ⟨x.toArray⟩] W fun e w'=>e=.returned (.bool (p x))/\W=w'):
  Calls Tryz.prog 228 #[v,.func (.func g) #[] #[]] w fun e w'=>∃ v',e=.returned v'/\w'.ownsRow base 9 1 v' (l.filter fun x=> !p x).length ((l.filter fun x=> !p x).map encS)/\w.grownBy w' v.ownBlock:=by
 have hc:=Zak v l g #[] w w.heap.size p (Lf _) (Qa ho hl2) eg (fun x W hW hx=>by
  have:=(hp x W hx).mono (R':=fun e w'=>e=.returned (.bool (p x))/\Below w.heap.size w w') fun e w' h=>⟨h.1,h.2▸hW⟩
  simpa using this)
 rcases Zgd p l with ⟨hno,hi⟩|⟨i,x,hx,hpx,hlow,hi⟩
 ·rw[hi] at hc;have hf:l.filter (fun x=> !p x)=l:=List.filter_eq_self.2 fun x hx=>by simp[hno x hx]
  rw[hf];have Ho:=hid ho;obtain⟨A,c,rfl,_,_,_,_⟩:=Z5 ho;clear hp hi hf ho;go_enter Tryz.func228,Tryz.ntmps228
  repeat go_step
  refine hc.mono ?_;rintro e w1 ⟨rfl,hb1⟩;go_wp2;go_ret;exact⟨_,rfl,Ho.out.kept (Zj hb1) (by cases (Value.slice A l.length c).ownBlock<;>simp),Qr (Zj hb1) _⟩
 ·rw[hi] at hc;have hil:=(Le hx).1;obtain⟨A,c,rfl,hlc,hcm,hA0,hA1⟩:=Z5 ho
  cases A with
  |none=>have:=(hA0 rfl).1;omega
  |some a=>
  obtain⟨ea,_,hbl⟩:=hA1 _ rfl;obtain⟨b,hbb⟩:∃ b,b=a.block:=⟨_,rfl⟩
  rw[<-hbb] at ea hbl;subst ea;have htk:(l.take i).filter (fun x=> !p x)=l.take i:=List.filter_eq_self.2 fun y hy=>by
   obtain⟨k,hk,e⟩:=List.mem_iff_getElem.1 hy;have hk':k<i/\k<l.length:=by rw[List.length_take] at hk;omega
   rw[hlow k hk'.1 y (by rw[List.getElem_take] at e;rw[List.getElem?_eq_getElem hk'.2,e])];rfl
  have hd0:Zad p l (i+1)=l:=by
   rw[Zik hx hpx];unfold Zad;rw[htk];have:(l.take i).length=i:=by simp;omega
   rw[this,List.take_append_drop]
  have hm0:((l.take (i+1)).filter fun x=> !p x).length=i:=by
   rw[List.take_add_one,hx];simp[hpx,htk];omega
  have Ho:=hid ho;have Hhp:=hid hp;have hl63:l.length<=9223372036854775807:=by omega
  clear hp hi ho hA0 hA1 hbb htk hlow hx;go_enter Tryz.func228,Tryz.ntmps228
  repeat go_step
  refine hc.mono ?_;rintro e w1 ⟨rfl,hb1⟩;have hi2:((i:Int) == -1)=false:=beq_eq_false_iff_ne.2 (by omega)
  have H1:=hid (show w1.ownsRow base 9 1 (.slice (some ⟨b,0,none⟩) l.length c) l.length ((Zad p l (i+1)).map encS) by
   rw[hd0];exact Ho.out.kept (Zj hb1) (by simp[Value.ownBlock]))
  have Hm0:=hid hm0;clear hd0 hm0 hc;go_wp2;go_loopw [5,6] (fun s5 s6 wr=>∃ (m j:Nat),s5=.int .i64 m/\s6=.int .i64 j/\j<=l.length/\m<j/\Hid (((l.take j).filter fun x=> !p x).length=m)/\Hid (wr.ownsRow base 9 1 (.slice (some ⟨b,0,none⟩) l.length c) l.length ((Zad p l j).map encS))/\Hid (w.grownBy wr (some b))) (fun _ s6 _=>l.length-(intOf s6).toNat)
  case atStart=>exact⟨i,i+1,rfl,by go_num,by omega,by omega,Hm0.out,H1.out,Qr (Zj hb1) _⟩
  case round=>
   obtain⟨m,j,rfl,rfl,hjl,hmj,hm,hO,hg⟩:=hrel;clear H1
   by_cases hl:j<l.length
   ·have hx:l[j]?=some l[j]:=Ld hl;generalize l[j]=x at hx;have hxl:=hl2 x (Ll hx);have hcj:wr.cell? ⟨b,j,none⟩=some (.string ⟨x.toArray⟩):=by
     rw[hO.out.cellAt j (by omega),List.getElem?_map,Zue hx];rfl
    have hcm:∃ u,wr.cell? ⟨b,m,none⟩=some u/\wr.frozen? ⟨b,m,none⟩=false:=by
     rcases hO.out.2 with ⟨h0,_⟩|⟨g',cap,cur,hv,_,hh,h3,_,h5,_⟩
     ·cases h0
     ·cases hv
      refine⟨cur[m]'(by omega),?_,(Za hh).2 m⟩;rw[(Za hh).1];exact Array.getElem?_eq_getElem (by omega)
    obtain⟨u,hcm1,hcm2⟩:=hcm;have hcall:=Hhp.out x wr hxl;have Hx:=hid hx
    cases hpx2:p x with
    |true=>
     rw[hpx2] at hcall
     have HS:=hid (show ((l.take (j+1)).filter fun x=> !p x).length=m/\wr.ownsRow base 9 1 (.slice (some ⟨b,0,none⟩) l.length c) l.length ((Zad p l (j+1)).map encS) by
      rw[Zik hx hpx2]
      refine⟨?_,hO.out⟩
      rw[List.take_add_one,hx]
      simp[hpx2]
      simpa using hm.out)
     clear hx hO hm hpx2;go_wp2_with (go_at_fn g;refine hcall.mono ?_;rintro e w' ⟨rfl,rfl⟩);go_roundw
     case rel=>exact⟨m,j+1,rfl,by go_num,by omega,by omega,HS.out.1,HS.out.2,hg.out⟩
     case measure=>simp[intOf];omega
    |false=>
     rw[hpx2] at hcall;have hk:=Zrn hx hpx2;rw[hm.out] at hk
     have HS:=hid (show ((l.take (j+1)).filter fun x=> !p x).length=m+1/\(wr.setCell ⟨b,m,none⟩ (.string ⟨x.toArray⟩)).ownsRow base 9 1 (.slice (some ⟨b,0,none⟩) l.length c) l.length ((Zad p l (j+1)).map encS) by
      refine⟨hk.2,?_⟩
      rw[<-hk.1,List.map_set]
      exact Zvt hO.out (by omega))
     clear hx hO hm hpx2 hk;go_wp2_with (go_at_fn g;refine hcall.mono ?_;rintro e w' ⟨rfl,rfl⟩);go_roundw
     case rel=>exact⟨m+1,j+1,by go_num,by go_num,by omega,by omega,HS.out.1,HS.out.2,Zn hg.out rfl _⟩
     case measure=>simp[intOf];omega
   ·have hjl2:j=l.length:=by omega
    have hm2:=hm.out;rw[List.take_of_length_le (by omega)] at hm2;have hml:m<l.length:=by omega
    have hcells:∀ j,j<l.length->∃ u,wr.cell? ⟨b,j,none⟩=some u/\wr.frozen? ⟨b,j,none⟩=false:=fun j hj=>by
     rcases hO.out.2 with ⟨h0,_⟩|⟨g',cap,cur,hv,_,hh,h3,_,h5,_⟩
     ·cases h0
     ·cases hv
      exact⟨cur[j]'(by omega),by rw[(Za hh).1];exact Array.getElem?_eq_getElem (by omega),(Za hh).2 j⟩
    have hcl:∀ ty,(Builtin.clear_ #[23] ty #[.slice (some ⟨b,m,none⟩) (l.length-m) (c-m)]).run Tryz.prog wr=.ok (.tuple #[]) (wr.setCells b m (List.replicate (l.length-m) (.string ⟨#[]⟩))):=fun ty=>
     Lib.run_clear_slice wr _ _ ty _ Tryz.underlying23 (fun _=>by kernel_rfl) rfl rfl b m _ _ (by omega) (fun j hj=>by
      obtain⟨u,h1,_⟩:=hcells (m+j) (by omega)
      rw[h1];rfl) (fun j hj=>(hcells (m+j) (by omega)).choose_spec.2)
    have hfin:(Zad p l l.length).take m=l.filter fun x=> !p x:=by
     unfold Zad;rw[List.take_of_length_le (Nat.le_refl _),<-hm2];exact List.take_left' rfl
    have hOc:=Zpd (m:=m) (vs:=List.replicate (l.length-m) (.string ⟨#[]⟩)) hO.out (by omega);rw[hjl2,<-List.map_take,hfin] at hOc;have HOc:=hid hOc;have Hm2:=hid hm2;have hm63:m<=c:=by omega
    have hmc:¬ c-m=c\/m=0:=by omega
    clear hO hm hcells hfin hOc hm2;subst hjl2;go_upto_region 11 with (fail)
    go_wp2;go_ret;refine⟨.slice (some ⟨b,0,none⟩) m c,rfl,?_,?_⟩
    ·rw[Hm2.out];exact HOc.out.1
    ·exact Zb hg.out HOc.out.2
theorem Zvr (w:World) (e:TypeId) (u v:Value) (base:Nat) (hb:base<=w.heap.size):(w.alloc (.cells #[u,v] e)).ownsRow base e 1 (.slice (some ⟨w.heap.size,0,none⟩) 2 2) 2 [u,v]:=
 ⟨rfl,.inr ⟨w.heap.size,2,#[u,v],rfl,hb,La w _,Lf _,by unfold maxLen;omega,rfl,rfl⟩⟩
def Kj (x:GIns):List Str:=(x.a::x.b::x.args).filter fun s=> !(s.isEmpty||s == Q2)
theorem Zwc (v:Value) (l:List Str) (w:World) (base:Nat) (hl2:∀ s∈l,s.length<=9223372036854775807) (ho:w.ownsRow base 9 1 v l.length (l.map encS)) (hb:base<=w.heap.size):
  Calls Tryz.prog 189 #[v] w fun e w'=>∃ v',e=.returned v'/\w'.ownsRow base 9 1 v' (l.filter fun s=> !(s.isEmpty||s == Q2)).length ((l.filter fun s=> !(s.isEmpty||s == Q2)).map encS)/\w.grownBy w' v.ownBlock:=by
 have hc:=Zfp v l 229 w base (fun s=>s.isEmpty||s == Q2) hl2 ho hb Zhr (fun x W hx=>some_1 x W hx);obtain⟨A,c,rfl,_,_,_,_⟩:=Z5 ho;clear ho;go_enter Tryz.func189,Tryz.ntmps189
 repeat go_step
 refine hc.mono ?_;rintro e w1 ⟨v',rfl,h1,h2⟩;go_wp2;go_ret;exact⟨v',rfl,h1,h2⟩
def UsesOut (x:GIns) (w:World) (e:Ending) (w':World):Prop:=∃ v',e=.returned v'/\w'.ownsRow w.heap.size 9 1 v' (Kj x).length ((Kj x).map encS)/\Below w.heap.size w w'
theorem Znf (x:GIns) (va vl:Value) (w:World) (B:Nat) (hi:InsAt w B x va vl) (hB:B<=w.heap.size):
  Calls Tryz.prog 143 #[.agg #[.int .u8 x.op,.string ⟨x.dst.toArray⟩,.string ⟨x.a.toArray⟩,.string ⟨x.b.toArray⟩,.int .i64 x.n,.string ⟨x.fn.toArray⟩,va,vl]] w fun e w'=>UsesOut x w e w':=by
 obtain⟨A4,d4,rfl,m4,_,_,hS⟩:=hi.args.open_;obtain⟨A5,d5,rfl,m5,_,_,_⟩:=hi.lb9.open_;obtain⟨w1,hw1⟩:∃ w1:World,w1=(w.alloc (.cells #[.int .u8 x.op,.string ⟨x.dst.toArray⟩,.string ⟨x.a.toArray⟩,.string ⟨x.b.toArray⟩,.int .i64 x.n,.string ⟨x.fn.toArray⟩,.slice A4 x.args.length d4,.slice A5 x.lb9.length d5] 25)).alloc (.cells #[.string ⟨x.a.toArray⟩,.string ⟨x.b.toArray⟩] 9):=⟨_,rfl⟩
 have hb1:Below w.heap.size w w1:=by rw[hw1];exact ((Below.refl w.heap.size w).alloc (Lf _) _).alloc (by simp) _
 have hs1:w1.heap.size=w.heap.size+2:=by rw[hw1];simp
 have hown:w1.ownsRow w.heap.size 9 1 (.slice (some ⟨w.heap.size+1,0,none⟩) 2 2) [x.a,x.b].length ([x.a,x.b].map encS):=by
  have:=Zvr (w.alloc (.cells #[.int .u8 x.op,.string ⟨x.dst.toArray⟩,.string ⟨x.a.toArray⟩,.string ⟨x.b.toArray⟩,.int .i64 x.n,.string ⟨x.fn.toArray⟩,.slice A4 x.args.length d4,.slice A5 x.lb9.length d5] 25)) 9 (.string ⟨x.a.toArray⟩) (.string ⟨x.b.toArray⟩) w.heap.size (by simp);rw[World.size_alloc] at this;rw[hw1];exact this
 have hS1:=hS.below strR.keeps hb1 hB;have hal:=hi.argsLe;have ha:=hi.a;have hb:=hi.b;have hargs:∀ s∈x.args,s.length<=9223372036854775807:=fun s hs=>by
  obtain⟨k,hk,e⟩:=List.mem_iff_getElem.1 hs;obtain⟨y,_,_,h1,_,_,h2⟩:=hS.at1 hk;rw[List.getElem?_eq_getElem hk,e] at h1
  cases h1
  exact h2.2
 have Hb1:=hid hb1;have Hs1:=hid hs1;clear hS hi hb1 hs1;rw[hw1] at hown hS1;have hlenx:([x.a,x.b].length+x.args.length)*16<=140737488355328:=by simp;omega
 go_enter Tryz.func143,Tryz.ntmps143;have hbs:w.heap.size<=((w.alloc (.cells #[.int .u8 x.op,.string ⟨x.dst.toArray⟩,.string ⟨x.a.toArray⟩,.string ⟨x.b.toArray⟩,.int .i64 x.n,.string ⟨x.fn.toArray⟩,.slice A4 x.args.length d4,.slice A5 x.lb9.length d5] 25)).alloc (.cells #[.string ⟨x.a.toArray⟩,.string ⟨x.b.toArray⟩] 9)).heap.size:=by simp;omega
 go_wp2_with (refine Un rfl (.tmp 7) (.tmp 9) rfl w.heap.size _ [x.a,x.b] rfl hown B _ x.args rfl hS1 hlenx hbs ?_;intro v2 w2 ho2 hg2 hor2);have Hown:=hid hown;rw[<-hw1] at hg2;clear hw1 hown hS1;have hb2:Below w.heap.size w w2:=Z1 Hb1.out hg2 (by have:=Hs1.out;omega) (fun r e=>(Hown.out.lt r e).1)
 refine (Zwc v2 ([x.a,x.b]++x.args) w2 w.heap.size (fun s hs=>by
  simp only[List.cons_append,List.nil_append,List.mem_cons] at hs
  rcases hs with rfl|rfl|hs
  ·exact ha
  ·exact hb
  ·exact hargs s hs) ho2 hb2.size).mono ?_
 rintro e w3 ⟨v3,rfl,ho3,hg3⟩;go_wp2_with fail;go_ret;exact⟨v3,rfl,ho3,Z1 hb2 hg3 hb2.size (fun r e=>(ho2.lt r e).1)⟩

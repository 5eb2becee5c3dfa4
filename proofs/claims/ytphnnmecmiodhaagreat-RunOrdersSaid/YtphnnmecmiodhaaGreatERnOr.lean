/- The orders of gnomonref15. No condition. -/
import Derived.Test.YtphnnmecmiodhaaGreatERne
set_option maxHeartbeats 8000000
set_option maxRecDepth 100000
set_option linter.unusedVariables false
set_option linter.unusedSimpArgs false
namespace Go.Proofs.YtphnnmecmiodhaaGreat
open Lib(hid)
open Go.RowKit Go.Shelf
theorem Zzp (a b:Int) (W:World):Calls Tryz.prog 92 #[.int .i64 a,.int .i64 b] W fun e w'=>e=.returned (.int .i64 (Lib.compareInt a b))/\W=w':=by
 go_enter Tryz.func92,Tryz.ntmps92
 rcases Zzy a b with ⟨h,e⟩|⟨h,e⟩|⟨h,e⟩<;>rw[e]<;>clear e
 ·have h1:¬ a=b:=by omega
  go_wp2;go_ret;exact⟨rfl,rfl⟩
 ·subst h;go_wp2;go_ret;exact⟨rfl,rfl⟩
 ·have h1:¬ a=b:=by omega
  have h2:¬ a<b:=by omega
  go_wp2;go_ret;exact⟨rfl,rfl⟩
theorem Yal (a b c a' b' c':Int) (W:World):Calls Tryz.prog 91 #[.agg #[.int .i64 a,.int .i64 b,.int .i64 c],.agg #[.int .i64 a',.int .i64 b',.int .i64 c']] W fun e w'=>e=.returned (.int .i64 (Zzb [a,b,c] [a',b',c']))/\W.grownBy w' none:=by
 have hv:Zzb [a,b,c] [a',b',c']=if Lib.compareInt a a'≠0 then Lib.compareInt a a' else if Lib.compareInt b b'≠0 then Lib.compareInt b b' else if Lib.compareInt c c'≠0 then Lib.compareInt c c' else 0:=rfl
 obtain⟨v,hvv⟩:∃ v,v=Zzb [a,b,c] [a',b',c']:=⟨_,rfl⟩
 rw[<-hvv] at hv ⊢;clear hvv;obtain⟨x,hx⟩:∃ x,x=Lib.compareInt a a':=⟨_,rfl⟩
 obtain⟨y,hy⟩:∃ x,x=Lib.compareInt b b':=⟨_,rfl⟩
 obtain⟨z,hz⟩:∃ x,x=Lib.compareInt c c':=⟨_,rfl⟩
 have h1:=hid (fun W=>Zzp a a' W);have h2:=hid (fun W=>Zzp b b' W);have h3:=hid (fun W=>Zzp c c' W);rw[<-hx] at h1 hv;rw[<-hy] at h2 hv;rw[<-hz] at h3 hv;have Hv:=hid hv;clear hx hy hz hv;go_enter Tryz.func91,Tryz.ntmps91;go_upto_region 2 with (go_at_call 92;refine (h1.out _).mono ?_;rintro e w1 ⟨rfl,rfl⟩;clear h1)
 by_cases h0:x=0
 ·subst h0;go_upto_region 4 with (go_at_call 92;refine (h2.out _).mono ?_;rintro e w1 ⟨rfl,rfl⟩;clear h2)
  by_cases h0:y=0
  ·subst h0;go_wp2_with (go_at_call 92;refine (h3.out _).mono ?_;rintro e w1 ⟨rfl,rfl⟩;clear h3);go_ret;exact⟨by rw[Hv.out];by_cases h:z=0<;>simp[h],Zd (Lc _ _ _) _⟩
  ·go_wp2;go_ret;exact⟨by rw[Hv.out];simp[h0],Zd (Lc _ _ _) _⟩
 ·go_wp2;go_ret;exact⟨by rw[Hv.out];simp[h0],Zd (Lc _ _ _) _⟩
theorem Ybl (a b c d e a' b' c' d' e':Int) (W:World):Calls Tryz.prog 48 #[.agg #[.int .i64 a,.int .i64 b,.int .i64 c,.int .i64 d,.int .i64 e],.agg #[.int .i64 a',.int .i64 b',.int .i64 c',.int .i64 d',.int .i64 e']] W fun r w'=>r=.returned (.int .i64 (Zzb [a,b,c,d,e] [a',b',c',d',e']))/\W.grownBy w' none:=by
 rw[<-or5];obtain⟨x,hx⟩:∃ x,x=Zzb [a,b,c] [a',b',c']:=⟨_,rfl⟩
 obtain⟨y,hy⟩:∃ x,x=Lib.compareInt d d':=⟨_,rfl⟩
 obtain⟨z,hz⟩:∃ x,x=Lib.compareInt e e':=⟨_,rfl⟩
 have h1:=hid (fun W=>Yal a b c a' b' c' W);have h2:=hid (fun W=>Zzp d d' W);have h3:=hid (fun W=>Zzp e e' W);rw[<-hx] at h1 ⊢;rw[<-hy] at h2 ⊢;rw[<-hz] at h3 ⊢;clear hx hy hz;obtain⟨W1,hW1⟩:∃ W1:World,W1=(W.alloc (.cells #[.int .i64 a,.int .i64 b,.int .i64 c,.int .i64 d,.int .i64 e] 93)).alloc (.cells #[.int .i64 a',.int .i64 b',.int .i64 c',.int .i64 d',.int .i64 e'] 93):=⟨_,rfl⟩
 have hL:W.grownBy W1 none:=by rw[hW1];exact Zd (Lc _ _ _) _
 have hb0:W1.heap[W.heap.size]?=some (.cells #[.int .i64 a,.int .i64 b,.int .i64 c,.int .i64 d,.int .i64 e] 93 (0,0)):=by rw[hW1];exact Zc (La _ _) _
 have hb1:W1.heap[W.heap.size+1]?=some (.cells #[.int .i64 a',.int .i64 b',.int .i64 c',.int .i64 d',.int .i64 e'] 93 (0,0)):=by
  have:=La (W.alloc (.cells #[.int .i64 a,.int .i64 b,.int .i64 c,.int .i64 d,.int .i64 e] 93)) (.cells #[.int .i64 a',.int .i64 b',.int .i64 c',.int .i64 d',.int .i64 e'] 93);simp only[World.size_alloc] at this;rw[hW1];exact this
 obtain⟨u,hu⟩:∃ u,u=W.heap.size:=⟨_,rfl⟩
 rw[<-hu] at hb0 hb1;have HL:=hid hL
 have HX:=hid (show ∀ W',W1.grownBy W' none->(W'.cell? ⟨u,0,none⟩=some (.int .i64 a)/\W'.cell? ⟨u,1,none⟩=some (.int .i64 b)/\W'.cell? ⟨u,2,none⟩=some (.int .i64 c)/\W'.cell? ⟨u+1,0,none⟩=some (.int .i64 a')/\W'.cell? ⟨u+1,1,none⟩=some (.int .i64 b')/\W'.cell? ⟨u+1,2,none⟩=some (.int .i64 c'))/\(W'.cell? ⟨u,3,none⟩=some (.int .i64 d)/\W'.cell? ⟨u+1,3,none⟩=some (.int .i64 d'))/\W'.cell? ⟨u,4,none⟩=some (.int .i64 e)/\W'.cell? ⟨u+1,4,none⟩=some (.int .i64 e') from
                   fun W' hg=>⟨⟨Zyz hg ((Za hb0).1 0),Zyz hg ((Za hb0).1 1),Zyz hg ((Za hb0).1 2),Zyz hg ((Za hb1).1 0),Zyz hg ((Za hb1).1 1),Zyz hg ((Za hb1).1 2)⟩,⟨Zyz hg ((Za hb0).1 3),Zyz hg ((Za hb1).1 3)⟩,Zyz hg ((Za hb0).1 4),Zyz hg ((Za hb1).1 4)⟩)
 obtain⟨⟨x0,x1,x2,y0,y1,y2⟩,-⟩:=HX.out W1 (Lb _ _);clear hL hb0 hb1;go_enter Tryz.func48,Tryz.ntmps48;go_upto_region 1 with (fail)
 rw[<-hu,<-hW1];clear hW1 hu;go_upto_region 2 with (go_at_call 91;refine (h1.out _).mono ?_;rintro r w1 ⟨rfl,hg1⟩;have Hg1:=hid hg1;clear hg1 h1)
 clear x0 x1 x2 y0 y1 y2
 by_cases h0:x=0
 ·subst h0;obtain⟨-,⟨x0,y0⟩,z0,z1⟩:=HX.out w1 Hg1.out;go_upto_region 4 with (go_at_call 92;refine (h2.out _).mono ?_;rintro r w2 ⟨rfl,rfl⟩;clear h2)
  by_cases h0:y=0
  ·subst h0;go_wp2_with (go_at_call 92;refine (h3.out _).mono ?_;rintro r w3 ⟨rfl,rfl⟩;clear h3);go_ret;exact⟨by by_cases h:z=0<;>simp[h,orL],Zb HL.out Hg1.out⟩
  ·go_wp2;go_ret;exact⟨by simp[h0,orL],Zb HL.out Hg1.out⟩
 ·go_wp2;go_ret;exact⟨by simp[h0,orL],Zb HL.out Hg1.out⟩
theorem Ybk (a b c d a' b' c' d':Int) (W:World):Calls Tryz.prog 50 #[.agg #[.int .i64 a,.int .i64 b,.int .i64 c,.int .i64 d],.agg #[.int .i64 a',.int .i64 b',.int .i64 c',.int .i64 d']] W fun r w'=>r=.returned (.int .i64 (Zzb [a,b,c,d] [a',b',c',d']))/\W.grownBy w' none:=by
 rw[<-or4];obtain⟨x,hx⟩:∃ x,x=Zzb [a,b,c] [a',b',c']:=⟨_,rfl⟩
 obtain⟨y,hy⟩:∃ x,x=Lib.compareInt d d':=⟨_,rfl⟩
 have h1:=hid (fun W=>Yal a b c a' b' c' W);have h2:=hid (fun W=>Zzp d d' W);rw[<-hx] at h1 ⊢;rw[<-hy] at h2 ⊢;clear hx hy;obtain⟨W1,hW1⟩:∃ W1:World,W1=(W.alloc (.cells #[.int .i64 a,.int .i64 b,.int .i64 c,.int .i64 d] 81)).alloc (.cells #[.int .i64 a',.int .i64 b',.int .i64 c',.int .i64 d'] 81):=⟨_,rfl⟩
 have hL:W.grownBy W1 none:=by rw[hW1];exact Zd (Lc _ _ _) _
 have hb0:W1.heap[W.heap.size]?=some (.cells #[.int .i64 a,.int .i64 b,.int .i64 c,.int .i64 d] 81 (0,0)):=by rw[hW1];exact Zc (La _ _) _
 have hb1:W1.heap[W.heap.size+1]?=some (.cells #[.int .i64 a',.int .i64 b',.int .i64 c',.int .i64 d'] 81 (0,0)):=by
  have:=La (W.alloc (.cells #[.int .i64 a,.int .i64 b,.int .i64 c,.int .i64 d] 81)) (.cells #[.int .i64 a',.int .i64 b',.int .i64 c',.int .i64 d'] 81);simp only[World.size_alloc] at this;rw[hW1];exact this
 obtain⟨u,hu⟩:∃ u,u=W.heap.size:=⟨_,rfl⟩
 rw[<-hu] at hb0 hb1;have HL:=hid hL
 have HX:=hid (show ∀ W',W1.grownBy W' none->(W'.cell? ⟨u,0,none⟩=some (.int .i64 a)/\W'.cell? ⟨u,1,none⟩=some (.int .i64 b)/\W'.cell? ⟨u,2,none⟩=some (.int .i64 c)/\W'.cell? ⟨u+1,0,none⟩=some (.int .i64 a')/\W'.cell? ⟨u+1,1,none⟩=some (.int .i64 b')/\W'.cell? ⟨u+1,2,none⟩=some (.int .i64 c'))/\W'.cell? ⟨u,3,none⟩=some (.int .i64 d)/\W'.cell? ⟨u+1,3,none⟩=some (.int .i64 d') from
                   fun W' hg=>⟨⟨Zyz hg ((Za hb0).1 0),Zyz hg ((Za hb0).1 1),Zyz hg ((Za hb0).1 2),Zyz hg ((Za hb1).1 0),Zyz hg ((Za hb1).1 1),Zyz hg ((Za hb1).1 2)⟩,Zyz hg ((Za hb0).1 3),Zyz hg ((Za hb1).1 3)⟩)
 obtain⟨⟨x0,x1,x2,y0,y1,y2⟩,-⟩:=HX.out W1 (Lb _ _);clear hL hb0 hb1;go_enter Tryz.func50,Tryz.ntmps50;go_upto_region 1 with (fail)
 rw[<-hu,<-hW1];clear hW1 hu;go_upto_region 2 with (go_at_call 91;refine (h1.out _).mono ?_;rintro r w1 ⟨rfl,hg1⟩;have Hg1:=hid hg1;clear hg1 h1)
 clear x0 x1 x2 y0 y1 y2
 by_cases h0:x=0
 ·subst h0;obtain⟨-,x0,y0⟩:=HX.out w1 Hg1.out;go_wp2_with (go_at_call 92;refine (h2.out _).mono ?_;rintro r w2 ⟨rfl,rfl⟩;clear h2);go_ret;exact⟨by by_cases h:y=0<;>simp[h,orL],Zb HL.out Hg1.out⟩
 ·go_wp2;go_ret;exact⟨by simp[h0,orL],Zb HL.out Hg1.out⟩
theorem Ycp (a0 a1 a2 a3 a4 b0 b1 b2 b3 b4 c0 c1 c2 c3 d0 d1 d2 d3:Int) (W:World):Calls Tryz.prog 10 #[.agg #[.int .i64 a0,.int .i64 a1,.int .i64 a2,.int .i64 a3,.int .i64 a4],.agg #[.int .i64 b0,.int .i64 b1,.int .i64 b2,.int .i64 b3,.int .i64 b4],.agg #[.int .i64 c0,.int .i64 c1,.int .i64 c2,.int .i64 c3],.agg #[.int .i64 d0,.int .i64 d1,.int .i64 d2,.int .i64 d3]] W fun r w'=>r=.returned (.bool true)/\W.grownBy w' none:=by
 obtain⟨W1,hW1⟩:∃ W1:World,W1=(((W.alloc (.cells #[.int .i64 a0,.int .i64 a1,.int .i64 a2,.int .i64 a3,.int .i64 a4] 93)).alloc (.cells #[.int .i64 b0,.int .i64 b1,.int .i64 b2,.int .i64 b3,.int .i64 b4] 93)).alloc (.cells #[.int .i64 c0,.int .i64 c1,.int .i64 c2,.int .i64 c3] 81)).alloc (.cells #[.int .i64 d0,.int .i64 d1,.int .i64 d2,.int .i64 d3] 81):=⟨_,rfl⟩
 have hL:W.grownBy W1 none:=by rw[hW1];exact Zd (Zd (Zd (Lc _ _ _) _) _) _
 have hb0:W1.heap[W.heap.size]?=some (.cells #[.int .i64 a0,.int .i64 a1,.int .i64 a2,.int .i64 a3,.int .i64 a4] 93 (0,0)):=by
  have h:=La W (.cells #[.int .i64 a0,.int .i64 a1,.int .i64 a2,.int .i64 a3,.int .i64 a4] 93)
  skip
  rw[hW1];exact Zc (Zc (Zc (h) _) _) _
 have hb1:W1.heap[W.heap.size+1]?=some (.cells #[.int .i64 b0,.int .i64 b1,.int .i64 b2,.int .i64 b3,.int .i64 b4] 93 (0,0)):=by
  have h:=La (W.alloc (.cells #[.int .i64 a0,.int .i64 a1,.int .i64 a2,.int .i64 a3,.int .i64 a4] 93)) (.cells #[.int .i64 b0,.int .i64 b1,.int .i64 b2,.int .i64 b3,.int .i64 b4] 93);simp only[World.size_alloc] at h;rw[hW1];exact Zc (Zc (h) _) _
 have hb2:W1.heap[W.heap.size+1+1]?=some (.cells #[.int .i64 c0,.int .i64 c1,.int .i64 c2,.int .i64 c3] 81 (0,0)):=by
  have h:=La ((W.alloc (.cells #[.int .i64 a0,.int .i64 a1,.int .i64 a2,.int .i64 a3,.int .i64 a4] 93)).alloc (.cells #[.int .i64 b0,.int .i64 b1,.int .i64 b2,.int .i64 b3,.int .i64 b4] 93)) (.cells #[.int .i64 c0,.int .i64 c1,.int .i64 c2,.int .i64 c3] 81);simp only[World.size_alloc] at h;rw[hW1];exact Zc (h) _
 have hb3:W1.heap[W.heap.size+1+1+1]?=some (.cells #[.int .i64 d0,.int .i64 d1,.int .i64 d2,.int .i64 d3] 81 (0,0)):=by
  have h:=La (((W.alloc (.cells #[.int .i64 a0,.int .i64 a1,.int .i64 a2,.int .i64 a3,.int .i64 a4] 93)).alloc (.cells #[.int .i64 b0,.int .i64 b1,.int .i64 b2,.int .i64 b3,.int .i64 b4] 93)).alloc (.cells #[.int .i64 c0,.int .i64 c1,.int .i64 c2,.int .i64 c3] 81)) (.cells #[.int .i64 d0,.int .i64 d1,.int .i64 d2,.int .i64 d3] 81);simp only[World.size_alloc] at h;rw[hW1];exact h
 obtain⟨u,hu⟩:∃ u,u=W.heap.size:=⟨_,rfl⟩
 rw[<-hu] at hb0 hb1 hb2 hb3;have HL:=hid hL
 have HX:=hid (show ∀ W',W1.grownBy W' none->W'.cell? ⟨u,0,none⟩=some (.int .i64 a0)/\W'.cell? ⟨u,1,none⟩=some (.int .i64 a1)/\W'.cell? ⟨u,2,none⟩=some (.int .i64 a2)/\W'.cell? ⟨u,3,none⟩=some (.int .i64 a3)/\W'.cell? ⟨u,4,none⟩=some (.int .i64 a4)/\W'.cell? ⟨u+1,0,none⟩=some (.int .i64 b0)/\W'.cell? ⟨u+1,1,none⟩=some (.int .i64 b1)/\W'.cell? ⟨u+1,2,none⟩=some (.int .i64 b2)/\W'.cell? ⟨u+1,3,none⟩=some (.int .i64 b3)/\W'.cell? ⟨u+1,4,none⟩=some (.int .i64 b4)/\W'.cell? ⟨u+1+1,0,none⟩=some (.int .i64 c0)/\W'.cell? ⟨u+1+1,1,none⟩=some (.int .i64 c1)/\W'.cell? ⟨u+1+1,2,none⟩=some (.int .i64 c2)/\W'.cell? ⟨u+1+1,3,none⟩=some (.int .i64 c3)/\W'.cell? ⟨u+1+1+1,0,none⟩=some (.int .i64 d0)/\W'.cell? ⟨u+1+1+1,1,none⟩=some (.int .i64 d1)/\W'.cell? ⟨u+1+1+1,2,none⟩=some (.int .i64 d2)/\W'.cell? ⟨u+1+1+1,3,none⟩=some (.int .i64 d3) from
                   fun W' hg=>⟨Zyz hg ((Za hb0).1 0),Zyz hg ((Za hb0).1 1),Zyz hg ((Za hb0).1 2),Zyz hg ((Za hb0).1 3),Zyz hg ((Za hb0).1 4),Zyz hg ((Za hb1).1 0),Zyz hg ((Za hb1).1 1),Zyz hg ((Za hb1).1 2),Zyz hg ((Za hb1).1 3),Zyz hg ((Za hb1).1 4),Zyz hg ((Za hb2).1 0),Zyz hg ((Za hb2).1 1),Zyz hg ((Za hb2).1 2),Zyz hg ((Za hb2).1 3),Zyz hg ((Za hb3).1 0),Zyz hg ((Za hb3).1 1),Zyz hg ((Za hb3).1 2),Zyz hg ((Za hb3).1 3)⟩)
 have hg:=Lb W1 none;have Hk:=hid (fun W=>Yci W);clear hL hb0 hb1 hb2 hb3;go_enter Tryz.func10,Tryz.ntmps10;go_upto_region 1 with (fail)
 rw[<-hu,<-hW1];clear hW1 hu
 go_region_held3 (fun W'=>W'.cell? ⟨u,0,none⟩=some (.int .i64 a0)/\W'.cell? ⟨u,1,none⟩=some (.int .i64 a1)/\W'.cell? ⟨u,2,none⟩=some (.int .i64 a2)/\W'.cell? ⟨u,3,none⟩=some (.int .i64 a3)/\W'.cell? ⟨u,4,none⟩=some (.int .i64 a4)/\W'.cell? ⟨u+1,0,none⟩=some (.int .i64 b0)/\W'.cell? ⟨u+1,1,none⟩=some (.int .i64 b1)/\W'.cell? ⟨u+1,2,none⟩=some (.int .i64 b2)/\W'.cell? ⟨u+1,3,none⟩=some (.int .i64 b3)/\W'.cell? ⟨u+1,4,none⟩=some (.int .i64 b4)/\W'.cell? ⟨u+1+1,0,none⟩=some (.int .i64 c0)/\W'.cell? ⟨u+1+1,1,none⟩=some (.int .i64 c1)/\W'.cell? ⟨u+1+1,2,none⟩=some (.int .i64 c2)/\W'.cell? ⟨u+1+1,3,none⟩=some (.int .i64 c3)/\W'.cell? ⟨u+1+1+1,0,none⟩=some (.int .i64 d0)/\W'.cell? ⟨u+1+1+1,1,none⟩=some (.int .i64 d1)/\W'.cell? ⟨u+1+1+1,2,none⟩=some (.int .i64 d2)/\W'.cell? ⟨u+1+1+1,3,none⟩=some (.int .i64 d3)) (first|exact HX.out _ hg|exact HX.out _ (Zf hg)) ((first
                                                                                                                                                                                                                                                                                                                                                                                                                                                                                                                                                                                                                                                                                                                                                                                                                                                                                                                                                                                                                                                          |(go_simp;go_at_call 47;refine (Yae _ _ _ _ _ _ _ _ _ _ _).mono ?_;rintro r w1 ⟨rfl,hl⟩;have hg:=Zb (by first|exact hg|exact Zf hg) hl.grown;clear hl)
                                                                                                                                                                                                                                                                                                                                                                                                                                                                                                                                                                                                                                                                                                                                                                                                                                                                                                                                                                                                                                                          |(go_simp;go_at_call 48;refine (Ybl _ _ _ _ _ _ _ _ _ _ _).mono ?_;rintro r w1 ⟨rfl,hl⟩;have hg:=Zb (by first|exact hg|exact Zf hg) hl;clear hl)
                                                                                                                                                                                                                                                                                                                                                                                                                                                                                                                                                                                                                                                                                                                                                                                                                                                                                                                                                                                                                                                          |(go_simp;go_at_call 49;refine (Yaq _ _ _ _ _ _ _ _ _).mono ?_;rintro r w1 ⟨rfl,hl⟩;have hg:=Zb (by first|exact hg|exact Zf hg) hl.grown;clear hl)
                                                                                                                                                                                                                                                                                                                                                                                                                                                                                                                                                                                                                                                                                                                                                                                                                                                                                                                                                                                                                                                          |(go_simp;go_at_call 50;refine (Ybk _ _ _ _ _ _ _ _ _).mono ?_;rintro r w1 ⟨rfl,hl⟩;have hg:=Zb (by first|exact hg|exact Zf hg) hl;clear hl)
                                                                                                                                                                                                                                                                                                                                                                                                                                                                                                                                                                                                                                                                                                                                                                                                                                                                                                                                                                                                                                                          |(go_simp;go_at_call 51;refine (Hk.out _).mono ?_;rintro r w1 ⟨rfl,hl⟩;have hg:=Zb (by first|exact hg|exact Zf hg) hl;clear hl)))
 all_goals (go_wp2_with fail;go_ret)
 all_goals exact⟨by first|rfl|simp,Zb HL.out (by first|exact hg|exact Zf hg)⟩

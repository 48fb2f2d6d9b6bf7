import Derived.Test.YtbkklafkoegdpaaQFnTakesx8
import Derived.Test.YtbkklafkoegdpaaQFnTakesx23
namespace Go.Proofs.Ytbkklafkoegdpaa.QFnTakes
open Go.RowKit Go.Proofs.YtbkklafkoegdpaaW.PrintWords Go.Proofs.YtbkklafkoegdpaaW.PrintLast Go.Proofs.YtbkklafkoegdpaaW.PrintMore
set_option maxHeartbeats 8000000
set_option maxRecDepth 100000
set_option linter.unusedVariables false
set_option linter.unusedSimpArgs false
def spec_l01Once.f (s0_0:List Int) (s0_1:Int) (s0_2:Int) (a1:Int):Option (Bool × Int × Int):=(spec_l01Below.f s0_0 s0_1 s0_2 a1).bind fun bt618=>(some ((bt618.1==0),bt618.2.1,bt618.2.2))
theorem spec_l01Once.calls (g:Nat) (s0_0:List Int) (s0_1:Int) (s0_2:Int) (c:Int) (d:Bool) (i:Int) (j:Int) (a w:World) (hI:IsS130 a w g s0_0 s0_1 s0_2) (hB:Below a.heap.size a w) (h:spec_l01Once.f s0_0 s0_1 s0_2 c=some (d,i,j)):
  Calls Try.prog 98 #[.pointer (some ⟨g,0,none⟩),.int .i64 c] w fun e w' =>e= .returned (.bool d)∧IsS130 a w' g s0_0 i j∧Below a.heap.size a w' ∧KeepBut w w' g none:=by
 have HI0:=am_ hI
 have HK:=am_ (KeepBut.refl w g none)
 have HL:=am_ hB.size
 clear hI
 have HW0:=am_ hB.size
 have HB:=am_ hB
 clear hB
 have H:((spec_l01Below.f s0_0 s0_1 s0_2 c).bind fun l=>(some ((l.1==0),l.2.1,l.2.2)))=some (d,i,j):=h
 clear h
 obtain⟨⟨m,n,o⟩,p,H⟩:=bs_ H;dsimp only at H
 simp only[Option.some.injEq,Prod.mk.injEq]at H
 obtain⟨rfl,rfl,rfl⟩:=H
 go_enter Try.func98,Try.ntmps98
 go_wp2_with (first|((with_reducible refine gc_ 99 ?_);refine gl_ (some 7) Try.func99 #[.pointer (some ⟨g,0,none⟩),.int .i64 c] ?_;(with_reducible refine(spec_l01Below.calls g s0_0 s0_1 s0_2 c m n o a _ ?side1 ?side2 p.out).mono ?_);(case side1=>exact qI_);(case side2=>exact qB_);rintro e q ⟨rfl,hi,hb,hk⟩;refine⟨_,rfl,?_⟩;replace HI0:=am_ (hi);replace HK:=am_ (KeepBut.trans (qK_) hk (.inl rfl));replace HB:=am_ (hb);clear hb hk hi))
 go_ret
 exact⟨qr_,qI_,qB_,qK_⟩
def spec_l05Edge.f (s0_0:List Int) (s0_1:Int) (s0_2:Int) (a1:Int):Option (Int × Int × Int × Int):=(spec_l01Below.f s0_0 s0_1 s0_2 a1).bind fun bt622=>((spec_l01Below.f s0_0 bt622.2.1 bt622.2.2 a1).bind fun bt625=>(if bt622.1=bt625.1 then (if a1=0 then (none) else (if bt622.1>(Int.tmod (wrap64 (bt622.1 + 1)) a1) then (some (Int.tmod (wrap64 (bt622.1 + 1)) a1,bt622.1,bt625.2.1,bt625.2.2)) else (some (bt622.1,Int.tmod (wrap64 (bt622.1 + 1)) a1,bt625.2.1,bt625.2.2)))) else (if bt622.1>bt625.1 then (some (bt625.1,bt622.1,bt625.2.1,bt625.2.2)) else (some (bt622.1,bt625.1,bt625.2.1,bt625.2.2)))))
theorem spec_l05Edge.calls (g:Nat) (s0_0:List Int) (s0_1:Int) (s0_2:Int) (l:Int) (R:Int) (T:Int) (U:Int) (V:Int) (n w:World) (hI:IsS130 n w g s0_0 s0_1 s0_2) (hB:Below n.heap.size n w) (h:spec_l05Edge.f s0_0 s0_1 s0_2 l=some (R,T,U,V)):
  Calls Try.prog 100 #[.pointer (some ⟨g,0,none⟩),.int .i64 l] w fun e w' =>e= .returned (.agg #[.int .i64 R,.int .i64 T])∧IsS130 n w' g s0_0 U V∧Below n.heap.size n w' ∧KeepBut w w' g none:=by
 have hu43:=Try.underlying43
 have HI0:=am_ hI
 have HK:=am_ (KeepBut.refl w g none)
 have HL:=am_ hB.size
 clear hI
 have HW0:=am_ hB.size
 have HB:=am_ hB
 clear hB
 have H:((spec_l01Below.f s0_0 s0_1 s0_2 l).bind fun x=>((spec_l01Below.f s0_0 x.2.1 x.2.2 l).bind fun y=>(if x.1=y.1 then (if l=0 then (none) else (if x.1>(Int.tmod (wrap64 (x.1 + 1)) l) then (some (Int.tmod (wrap64 (x.1 + 1)) l,x.1,y.2.1,y.2.2)) else (some (x.1,Int.tmod (wrap64 (x.1 + 1)) l,y.2.1,y.2.2)))) else (if x.1>y.1 then (some (y.1,x.1,y.2.1,y.2.2)) else (some (x.1,y.1,y.2.1,y.2.2))))))=some (R,T,U,V):=h
 clear h
 obtain⟨⟨v,B,C⟩,J,H⟩:=bs_ H;dsimp only at H
 obtain⟨⟨z,L,M⟩,N,H⟩:=bs_ H;dsimp only at H
 refine jb_ H ?_ ?_<;>clear H<;>intro E H
 ·have F:(v==z)=false:=beq_eq_false_iff_ne.mpr E
  have G:(v != z)=true:=bne_iff_ne.mpr E
  refine jc_ H ?_ ?_<;>clear H<;>intro A H
  ·have D:decide (z<v)=true:=decide_eq_true A
   clear A
   simp only[Option.some.injEq,Prod.mk.injEq]at H
   obtain⟨rfl,rfl,rfl,rfl⟩:=H
   go_enter Try.func100,Try.ntmps100
   go_wp2_with (first|((with_reducible refine gd_ 4 ?_);refine bx_ 4 (cs:= #[.int .i64 0,.int .i64 0]) (t:=43) ?_;intro a hg a0 hbox hb;have p:=am_ (IsS130.below (qI_) hb);have q:=am_ (KeepBut.trans (qK_) (KeepBut.of_below hb g none) (.inl rfl));have s:=am_ (below_step (qB_) hb);have u:=am_ (hbox);have c:=am_ ((by rw[hg];exact(keep_size (w:=w) (g:=g) (row:=none) (qK_)):w.heap.size≤a));have d:=am_ ((Nat.le_trans HW0.out (by rw[hg];exact(keep_size (w:=w) (g:=g) (row:=none) (qK_)):w.heap.size≤a):n.heap.size≤a));have i:=am_ ((by rw[hg];exact Nat.ne_of_lt (IsS130.lt (show IsS130 n _ g s0_0 s0_1 s0_2 from qI_)):g≠a));have j:=am_ ((by rw[hg];exact Nat.ne_of_gt (IsS130.lt (show IsS130 n _ g s0_0 s0_1 s0_2 from qI_)):a≠g));clear HI0 HK HB;have HI0:=p;have HK:=q;have HB:=s;have m:=u;clear p q s u hb hbox hg)|((with_reducible refine gc_ 99 ?_);refine gl_ (some 9) Try.func99 #[.pointer (some ⟨g,0,none⟩),.int .i64 l] ?_;(with_reducible refine(spec_l01Below.calls g s0_0 s0_1 s0_2 l v B C n _ ?side1 ?side2 J.out).mono ?_);(case side1=>exact qI_);(case side2=>exact qB_);rintro e a1 ⟨rfl,hi,hb,hk⟩;refine⟨_,rfl,?_⟩;replace m:=am_ (KeepBut.blk hk (g' :=a) (o:= .cells #[.int .i64 0,.int .i64 0] 43 (0,0)) (qk_ m) j.out (by simp));replace HI0:=am_ (hi);replace HK:=am_ (KeepBut.trans (qK_) hk (.inl rfl));replace HB:=am_ (hb);clear hb hk hi)|((with_reducible refine gc_ 99 ?_);refine gl_ (some 12) Try.func99 #[.pointer (some ⟨g,0,none⟩),.int .i64 l] ?_;(with_reducible refine(spec_l01Below.calls g s0_0 B C l z L M n _ ?side1 ?side2 N.out).mono ?_);(case side1=>exact qI_);(case side2=>exact qB_);rintro e a2 ⟨rfl,hi,hb,hk⟩;refine⟨_,rfl,?_⟩;replace m:=am_ (KeepBut.blk hk (g' :=a) (o:= .cells #[.int .i64 0,.int .i64 0] 43 (0,0)) (qk_ m) j.out (by simp));replace HI0:=am_ (hi);replace HK:=am_ (KeepBut.trans (qK_) hk (.inl rfl));replace HB:=am_ (hb);clear hb hk hi;obtain⟨b0,b1⟩:=nn_ j;obtain⟨b2,b3,b4,b5⟩:=bc2_ m))
   refine bodyPost_ret (results_cell_row rfl _ _ a 43 #[.int .i64 z,.int .i64 v] (0,0) _ rfl (qp_ m) Try.underlying43 rfl (by kernel_rfl)) rfl ?_
   exact⟨qr_,qI_,qB_,qK_⟩
  have D:decide (z<v)=false:=decide_eq_false A
  clear A
  simp only[Option.some.injEq,Prod.mk.injEq]at H
  obtain⟨rfl,rfl,rfl,rfl⟩:=H
  go_enter Try.func100,Try.ntmps100
  go_wp2_with (first|((with_reducible refine gd_ 4 ?_);refine bx_ 4 (cs:= #[.int .i64 0,.int .i64 0]) (t:=43) ?_;intro a hg a3 hbox hb;have p:=am_ (IsS130.below (qI_) hb);have q:=am_ (KeepBut.trans (qK_) (KeepBut.of_below hb g none) (.inl rfl));have s:=am_ (below_step (qB_) hb);have u:=am_ (hbox);have c:=am_ ((by rw[hg];exact(keep_size (w:=w) (g:=g) (row:=none) (qK_)):w.heap.size≤a));have d:=am_ ((Nat.le_trans HW0.out (by rw[hg];exact(keep_size (w:=w) (g:=g) (row:=none) (qK_)):w.heap.size≤a):n.heap.size≤a));have i:=am_ ((by rw[hg];exact Nat.ne_of_lt (IsS130.lt (show IsS130 n _ g s0_0 s0_1 s0_2 from qI_)):g≠a));have j:=am_ ((by rw[hg];exact Nat.ne_of_gt (IsS130.lt (show IsS130 n _ g s0_0 s0_1 s0_2 from qI_)):a≠g));clear HI0 HK HB;have HI0:=p;have HK:=q;have HB:=s;have m:=u;clear p q s u hb hbox hg)|((with_reducible refine gc_ 99 ?_);refine gl_ (some 9) Try.func99 #[.pointer (some ⟨g,0,none⟩),.int .i64 l] ?_;(with_reducible refine(spec_l01Below.calls g s0_0 s0_1 s0_2 l v B C n _ ?side1 ?side2 J.out).mono ?_);(case side1=>exact qI_);(case side2=>exact qB_);rintro e a4 ⟨rfl,hi,hb,hk⟩;refine⟨_,rfl,?_⟩;replace m:=am_ (KeepBut.blk hk (g' :=a) (o:= .cells #[.int .i64 0,.int .i64 0] 43 (0,0)) (qk_ m) j.out (by simp));replace HI0:=am_ (hi);replace HK:=am_ (KeepBut.trans (qK_) hk (.inl rfl));replace HB:=am_ (hb);clear hb hk hi)|((with_reducible refine gc_ 99 ?_);refine gl_ (some 12) Try.func99 #[.pointer (some ⟨g,0,none⟩),.int .i64 l] ?_;(with_reducible refine(spec_l01Below.calls g s0_0 B C l z L M n _ ?side1 ?side2 N.out).mono ?_);(case side1=>exact qI_);(case side2=>exact qB_);rintro e a5 ⟨rfl,hi,hb,hk⟩;refine⟨_,rfl,?_⟩;replace m:=am_ (KeepBut.blk hk (g' :=a) (o:= .cells #[.int .i64 0,.int .i64 0] 43 (0,0)) (qk_ m) j.out (by simp));replace HI0:=am_ (hi);replace HK:=am_ (KeepBut.trans (qK_) hk (.inl rfl));replace HB:=am_ (hb);clear hb hk hi;obtain⟨b6,b7⟩:=nn_ j;obtain⟨b8,b9,c0,c1⟩:=bc2_ m))
  refine bodyPost_ret (results_cell_row rfl _ _ a 43 #[.int .i64 v,.int .i64 z] (0,0) _ rfl (qp_ m) Try.underlying43 rfl (by kernel_rfl)) rfl ?_
  exact⟨qr_,qI_,qB_,qK_⟩
 have F:(v==z)=true:=beq_iff_eq.mpr E
 have G:(v != z)=false:=bne_eq_false_iff_eq.mpr E
 clear E
 refine jc_ H ?_ ?_<;>clear H<;>intro X H
 ·exact absurd H (by simp)
 have Y:(l==0)=false:=beq_eq_false_iff_ne.mpr X
 have Z:(l != 0)=true:=bne_iff_ne.mpr X
 refine jc_ H ?_ ?_<;>clear H<;>intro O H
 ·have I:decide ((Int.tmod (wrap64 (v + 1)) l)<v)=true:=decide_eq_true O
  clear O
  simp only[Option.some.injEq,Prod.mk.injEq]at H
  obtain⟨rfl,rfl,rfl,rfl⟩:=H
  go_enter Try.func100,Try.ntmps100
  go_wp2_with (first|((with_reducible refine gd_ 4 ?_);refine bx_ 4 (cs:= #[.int .i64 0,.int .i64 0]) (t:=43) ?_;intro a hg c2 hbox hb;have p:=am_ (IsS130.below (qI_) hb);have q:=am_ (KeepBut.trans (qK_) (KeepBut.of_below hb g none) (.inl rfl));have s:=am_ (below_step (qB_) hb);have u:=am_ (hbox);have c:=am_ ((by rw[hg];exact(keep_size (w:=w) (g:=g) (row:=none) (qK_)):w.heap.size≤a));have d:=am_ ((Nat.le_trans HW0.out (by rw[hg];exact(keep_size (w:=w) (g:=g) (row:=none) (qK_)):w.heap.size≤a):n.heap.size≤a));have i:=am_ ((by rw[hg];exact Nat.ne_of_lt (IsS130.lt (show IsS130 n _ g s0_0 s0_1 s0_2 from qI_)):g≠a));have j:=am_ ((by rw[hg];exact Nat.ne_of_gt (IsS130.lt (show IsS130 n _ g s0_0 s0_1 s0_2 from qI_)):a≠g));clear HI0 HK HB;have HI0:=p;have HK:=q;have HB:=s;have m:=u;clear p q s u hb hbox hg)|((with_reducible refine gc_ 99 ?_);refine gl_ (some 9) Try.func99 #[.pointer (some ⟨g,0,none⟩),.int .i64 l] ?_;(with_reducible refine(spec_l01Below.calls g s0_0 s0_1 s0_2 l v B C n _ ?side1 ?side2 J.out).mono ?_);(case side1=>exact qI_);(case side2=>exact qB_);rintro e c3 ⟨rfl,hi,hb,hk⟩;refine⟨_,rfl,?_⟩;replace m:=am_ (KeepBut.blk hk (g' :=a) (o:= .cells #[.int .i64 0,.int .i64 0] 43 (0,0)) (qk_ m) j.out (by simp));replace HI0:=am_ (hi);replace HK:=am_ (KeepBut.trans (qK_) hk (.inl rfl));replace HB:=am_ (hb);clear hb hk hi)|((with_reducible refine gc_ 99 ?_);refine gl_ (some 12) Try.func99 #[.pointer (some ⟨g,0,none⟩),.int .i64 l] ?_;(with_reducible refine(spec_l01Below.calls g s0_0 B C l z L M n _ ?side1 ?side2 N.out).mono ?_);(case side1=>exact qI_);(case side2=>exact qB_);rintro e a6 ⟨rfl,hi,hb,hk⟩;refine⟨_,rfl,?_⟩;replace m:=am_ (KeepBut.blk hk (g' :=a) (o:= .cells #[.int .i64 0,.int .i64 0] 43 (0,0)) (qk_ m) j.out (by simp));replace HI0:=am_ (hi);replace HK:=am_ (KeepBut.trans (qK_) hk (.inl rfl));replace HB:=am_ (hb);clear hb hk hi;obtain⟨c4,c5⟩:=nn_ j;obtain⟨c6,c7,c8,c9⟩:=bc2_ m))
  refine bodyPost_ret (results_cell_row rfl _ _ a 43 #[.int .i64 (Int.tmod (wrap64 (v + 1)) l),.int .i64 v] (0,0) _ rfl (qp_ m) Try.underlying43 rfl (by kernel_rfl)) rfl ?_
  exact⟨qr_,qI_,qB_,qK_⟩
 have I:decide ((Int.tmod (wrap64 (v + 1)) l)<v)=false:=decide_eq_false O
 clear O
 simp only[Option.some.injEq,Prod.mk.injEq]at H
 obtain⟨rfl,rfl,rfl,rfl⟩:=H
 go_enter Try.func100,Try.ntmps100
 go_wp2_with (first|((with_reducible refine gd_ 4 ?_);refine bx_ 4 (cs:= #[.int .i64 0,.int .i64 0]) (t:=43) ?_;intro a hg a7 hbox hb;have p:=am_ (IsS130.below (qI_) hb);have q:=am_ (KeepBut.trans (qK_) (KeepBut.of_below hb g none) (.inl rfl));have s:=am_ (below_step (qB_) hb);have u:=am_ (hbox);have c:=am_ ((by rw[hg];exact(keep_size (w:=w) (g:=g) (row:=none) (qK_)):w.heap.size≤a));have d:=am_ ((Nat.le_trans HW0.out (by rw[hg];exact(keep_size (w:=w) (g:=g) (row:=none) (qK_)):w.heap.size≤a):n.heap.size≤a));have i:=am_ ((by rw[hg];exact Nat.ne_of_lt (IsS130.lt (show IsS130 n _ g s0_0 s0_1 s0_2 from qI_)):g≠a));have j:=am_ ((by rw[hg];exact Nat.ne_of_gt (IsS130.lt (show IsS130 n _ g s0_0 s0_1 s0_2 from qI_)):a≠g));clear HI0 HK HB;have HI0:=p;have HK:=q;have HB:=s;have m:=u;clear p q s u hb hbox hg)|((with_reducible refine gc_ 99 ?_);refine gl_ (some 9) Try.func99 #[.pointer (some ⟨g,0,none⟩),.int .i64 l] ?_;(with_reducible refine(spec_l01Below.calls g s0_0 s0_1 s0_2 l v B C n _ ?side1 ?side2 J.out).mono ?_);(case side1=>exact qI_);(case side2=>exact qB_);rintro e a8 ⟨rfl,hi,hb,hk⟩;refine⟨_,rfl,?_⟩;replace m:=am_ (KeepBut.blk hk (g' :=a) (o:= .cells #[.int .i64 0,.int .i64 0] 43 (0,0)) (qk_ m) j.out (by simp));replace HI0:=am_ (hi);replace HK:=am_ (KeepBut.trans (qK_) hk (.inl rfl));replace HB:=am_ (hb);clear hb hk hi)|((with_reducible refine gc_ 99 ?_);refine gl_ (some 12) Try.func99 #[.pointer (some ⟨g,0,none⟩),.int .i64 l] ?_;(with_reducible refine(spec_l01Below.calls g s0_0 B C l z L M n _ ?side1 ?side2 N.out).mono ?_);(case side1=>exact qI_);(case side2=>exact qB_);rintro e a9 ⟨rfl,hi,hb,hk⟩;refine⟨_,rfl,?_⟩;replace m:=am_ (KeepBut.blk hk (g' :=a) (o:= .cells #[.int .i64 0,.int .i64 0] 43 (0,0)) (qk_ m) j.out (by simp));replace HI0:=am_ (hi);replace HK:=am_ (KeepBut.trans (qK_) hk (.inl rfl));replace HB:=am_ (hb);clear hb hk hi;obtain⟨d0,d1⟩:=nn_ j;obtain⟨d2,d3,d4,d5⟩:=bc2_ m))
 refine bodyPost_ret (results_cell_row rfl _ _ a 43 #[.int .i64 v,.int .i64 (Int.tmod (wrap64 (v + 1)) l)] (0,0) _ rfl (qp_ m) Try.underlying43 rfl (by kernel_rfl)) rfl ?_
 exact⟨qr_,qI_,qB_,qK_⟩
def spec_WebNew.f (a0:Int):Option (Int × (List (S72)) × Bool):=(spec_l01In.f a0 1 12).bind fun t629=>(if t629=true then (some (a0,([]:List (S72)),true)) else (some (0,([]:List (S72)),false)))
theorem spec_WebNew.calls (g:Int) (n:Int) (o:List (S72)) (p:Bool) (w:World) (h:spec_WebNew.f g=some (n,o,p)):
  Calls Try.prog 137 #[.int .i64 g] w fun e w' =>∃ m:Value,e= .returned (.tuple #[.agg #[.int .i64 n,m],.bool p])∧Kd.R k72 72 w' w.heap.size (fun _=>True) m o∧Below w.heap.size w w' :=by
 have hu29:=Try.underlying29
 have HB:=am_ (Below.refl w.heap.size w)
 have H:((spec_l01In.f g 1 12).bind fun q=>(if q=true then (some (g,([]:List (S72)),true)) else (some (0,([]:List (S72)),false))))=some (n,o,p):=h
 clear h
 obtain⟨q,s,H⟩:=bs_ H
 refine ie_ H ?_ ?_<;>clear H<;>rintro rfl H
 ·simp only[Option.some.injEq,Prod.mk.injEq]at H
  obtain⟨rfl,rfl,rfl⟩:=H
  go_enter Try.func137,Try.ntmps137
  go_wp2_with (first|((with_reducible refine gd_ 2 ?_);refine by_ 2 (cs:= #[.int .i64 0,.slice none 0 0]) (t:=29) ?_;intro i hg j a hb;have u:=gw_ hg;replace HB:=hs_ hb;clear hb hg)|((with_reducible refine gc_ 57 ?_);refine gl_ (some 5) Try.func57 #[.int .i64 g,.int .i64 1,.int .i64 12] ?_;(with_reducible refine(spec_l01In.calls g 1 12 true _ s.out).mono ?_);rintro e w' ⟨rfl,⟨nd,rfl⟩⟩;refine⟨_,rfl,?_⟩;((rw[drewN_self j];generalize hq_:World.drewN j _=j;have c:Aside0 (j.heap[i]? =some (.cells #[.int .i64 0,.slice none 0 0] 29 (0,0))):=⟨by rw[←hq_];exact(qk_ a)⟩;have d:Aside0 (Below w.heap.size w j):=⟨by rw[←hq_];exact qB_⟩;clear a HB hq_;have a:=c;have HB:=d;clear c d;have hcr_gb628_0:j.cell? ⟨i,0,none⟩=some (.int .i64 0):=bl_ a 0;have hfr_gb628_0:=blk_frozen a.out 0;have hcr_gb628_1:j.cell? ⟨i,1,none⟩=some (.slice none 0 0):=bl_ a 1;have hfr_gb628_1:=blk_frozen a.out 1));obtain⟨v,x,y,z⟩:=bc2_ a))
  refine bodyPost_ret (results_ct rfl _ _ i 29 #[.int .i64 g,.slice none 0 0] (0,0) _ rfl (qp_ a) Try.underlying29 rfl (by kernel_rfl)) rfl ?_
  exact⟨_,qr_,by first|exact Kd.R_nil _ _ _ _ _|exact Kd.N_nil _ _ _ _ _|exact Kd.V_nil _ _ _ _ _|exact Kd.Q_nil _ _ _ _ _|exact Kd.S_nil _ _ _ _ _,qB_⟩
 simp only[Option.some.injEq,Prod.mk.injEq]at H
 obtain⟨rfl,rfl,rfl⟩:=H
 go_enter Try.func137,Try.ntmps137
 go_wp2_with (first|((with_reducible refine gd_ 2 ?_);refine by_ 2 (cs:= #[.int .i64 0,.slice none 0 0]) (t:=29) ?_;intro i hg l a hb;have u:=gw_ hg;replace HB:=hs_ hb;clear hb hg)|((with_reducible refine gc_ 57 ?_);refine gl_ (some 5) Try.func57 #[.int .i64 g,.int .i64 1,.int .i64 12] ?_;(with_reducible refine(spec_l01In.calls g 1 12 false _ s.out).mono ?_);rintro e w' ⟨rfl,⟨nd,rfl⟩⟩;refine⟨_,rfl,?_⟩;((rw[drewN_self l];generalize hq_:World.drewN l _=l;have c:Aside0 (l.heap[i]? =some (.cells #[.int .i64 0,.slice none 0 0] 29 (0,0))):=⟨by rw[←hq_];exact(qk_ a)⟩;have d:Aside0 (Below w.heap.size w l):=⟨by rw[←hq_];exact qB_⟩;clear a HB hq_;have a:=c;have HB:=d;clear c d;have hcr_gb628_0:l.cell? ⟨i,0,none⟩=some (.int .i64 0):=bl_ a 0;have hfr_gb628_0:=blk_frozen a.out 0;have hcr_gb628_1:l.cell? ⟨i,1,none⟩=some (.slice none 0 0):=bl_ a 1;have hfr_gb628_1:=blk_frozen a.out 1));obtain⟨A,B,C,D⟩:=bc2_ a))
 refine bodyPost_ret (results_ct rfl _ _ i 29 #[.int .i64 0,.slice none 0 0] (0,0) _ rfl (qp_ a) Try.underlying29 rfl (by kernel_rfl)) rfl ?_
 exact⟨_,qr_,by first|exact Kd.R_nil _ _ _ _ _|exact Kd.N_nil _ _ _ _ _|exact Kd.V_nil _ _ _ _ _|exact Kd.Q_nil _ _ _ _ _|exact Kd.S_nil _ _ _ _ _,qB_⟩
end Go.Proofs.Ytbkklafkoegdpaa.QFnTakes

import Derived.Test.YtbkklafkoegdpaaQFnLevelsx17
namespace Go.Proofs.Ytbkklafkoegdpaa.QFnLevels
open Go.RowKit Go.Proofs.YtbkklafkoegdpaaW.PrintWords Go.Proofs.YtbkklafkoegdpaaW.PrintLast Go.Proofs.YtbkklafkoegdpaaW.PrintMore
set_option maxHeartbeats 8000000
set_option maxRecDepth 100000
set_option linter.unusedVariables false
set_option linter.unusedSimpArgs false
def spec_AddEdge.f (k:Nat) (a0_0:Int) (l0_1:List (S43)) (a1_0:Int) (a1_1:Int):Option (Int × (List (S43)) × Bool):=(spec_GraphOk.f k a0_0 l0_1).bind fun t416=>(if t416=true then ((spec_EdgeOk.f a0_0 a1_0 a1_1).bind fun t417=>(if t417=true then ((spec_HasEdge.f k a0_0 l0_1 a1_0 a1_1).bind fun t418=>(if t418=true then (some (0,([]:List (S43)),false)) else ((spec_l05Put.f k l0_1 a1_0 a1_1).bind fun t419=>(some (a0_0,t419,true))))) else (some (0,([]:List (S43)),false)))) else (some (0,([]:List (S43)),false)))
def spec_AddEdge.T3:Bool × List (List Nat × List Nat):=(true,[([],[]),([0],[0]),([],[]),([2],[2]),([],[]),([3,4],[3,4]),([1,5],[1,5]),([6,5,0,1,2,3,4,5,6],[6]),([7,0,1,2,3,4,5,6,7],[])])
def spec_AddEdge.B3:List Nat:=[0,1,0,4,0,28,63,127,255]
theorem spec_AddEdge.tab3:rtab .any (opsOf Try.f87 3)=spec_AddEdge.T3:=by kernel_rfl
theorem spec_AddEdge.bits3:waitsOk spec_AddEdge.T3.2 spec_AddEdge.B3=true:=by kernel_rfl
theorem spec_AddEdge.calls (k:Nat) (a:Int) (l:Option Addr) (m:Nat) (c:List (S43)) (g:Int) (i:Int) (M:Int) (N:List (S43)) (O:Bool) (w:World) (hr0_1:Kd.C k43 w l c.length c) (hc0_1:c.length≤m) (h:spec_AddEdge.f k a c g i=some (M,N,O)):
  Calls Try.prog 87 #[.agg #[.int .i64 a,.slice l c.length m],.agg #[.int .i64 g,.int .i64 i]] w fun e w' =>∃ A:Value,e= .returned (.tuple #[.agg #[.int .i64 M,A],.bool O])∧Kd.R k43 43 w' w.heap.size (fun _=>True) A N∧Below w.heap.size w w' :=by
 have hu69:=Try.underlying69;have hu43:=Try.underlying43
 have q:=am_ hr0_1
 have s:=am_ hc0_1
 clear hr0_1 hc0_1
 have HB:=am_ (Below.refl w.heap.size w)
 have H:((spec_GraphOk.f k a c).bind fun a6=>(if a6=true then ((spec_EdgeOk.f a g i).bind fun a7=>(if a7=true then ((spec_HasEdge.f k a c g i).bind fun a8=>(if a8=true then (some (0,([]:List (S43)),false)) else ((spec_l05Put.f k c g i).bind fun B=>(some (a,B,true))))) else (some (0,([]:List (S43)),false)))) else (some (0,([]:List (S43)),false))))=some (M,N,O):=h
 clear h
 obtain⟨a6,L,H⟩:=bs_ H
 refine id_ H ?_ ?_<;>clear H<;>rintro rfl H
 ·simp only[Option.some.injEq,Prod.mk.injEq]at H
  obtain⟨rfl,rfl,rfl⟩:=H
  go_enter Try.func87,Try.ntmps87
  go_wp2_with (first|((with_reducible refine gd_ 2 ?_);refine by_ 2 (cs:= #[.int .i64 a,.slice l c.length m]) (t:=69) ?_;intro D hg b6 d hb;have T:=gw_ hg;replace HB:=hs_ hb;clear hb hg)|((with_reducible refine gd_ 3 ?_);refine by_ 3 (cs:= #[.int .i64 g,.int .i64 i]) (t:=43) ?_;intro E hg b7 j hb;have U:=gw_ hg;obtain⟨y,V⟩:=qn_ d hg;replace d:=qbl_ d hb;replace HB:=hs_ hb;clear hb hg)|((with_reducible refine gd_ 4 ?_);refine by_ 4 (cs:= #[.int .i64 0,.slice none 0 0]) (t:=69) ?_;intro u hg b8 o hb;have X:=gw_ hg;obtain⟨v,F⟩:=qn_ d hg;obtain⟨x,z⟩:=qn_ j hg;replace d:=qbl_ d hb;replace j:=qbl_ j hb;replace HB:=hs_ hb;clear hb hg;obtain⟨d6,d7⟩:=nn_ y;obtain⟨d8,d9⟩:=nn_ v;obtain⟨e0,e1,e2,e3⟩:=bc2_ d)|((with_reducible refine gc_ 56 ?_);refine gl_ (some 7) Try.func56 #[.agg #[.int .i64 a,.slice l c.length m]] ?_;(with_reducible refine(spec_GraphOk.calls k a _ _ c false _ ?_ ?_ L.out).mono ?_);exact qC_ q HB;exact s.out;rintro e b9 ⟨rfl,hb⟩;refine⟨_,rfl,?_⟩;replace d:=qbl_ d hb;replace j:=qbl_ j hb;replace o:=qbl_ o hb;replace HB:=hs_ hb;clear hb;(try clear hb2);obtain⟨l0,l1⟩:=nn_ z;obtain⟨e4,e5,e6,e7⟩:=bc2_ o))
  refine bodyPost_ret (results_ct rfl _ _ u 69 #[.int .i64 0,.slice none 0 0] (0,0) _ rfl (qp_ o) Try.underlying69 rfl (by kernel_rfl)) rfl ?_
  exact⟨_,qr_,by first|exact Kd.R_nil _ _ _ _ _|exact Kd.N_nil _ _ _ _ _|exact Kd.V_nil _ _ _ _ _|exact Kd.Q_nil _ _ _ _ _|exact Kd.S_nil _ _ _ _ _,qB_⟩
 obtain⟨a7,Y,H⟩:=bs_ H
 refine id_ H ?_ ?_<;>clear H<;>rintro rfl H
 ·simp only[Option.some.injEq,Prod.mk.injEq]at H
  obtain⟨rfl,rfl,rfl⟩:=H
  go_enter Try.func87,Try.ntmps87
  go_wp2_with (first|((with_reducible refine gd_ 2 ?_);refine by_ 2 (cs:= #[.int .i64 a,.slice l c.length m]) (t:=69) ?_;intro D hg c0 d hb;have T:=gw_ hg;replace HB:=hs_ hb;clear hb hg)|((with_reducible refine gd_ 3 ?_);refine by_ 3 (cs:= #[.int .i64 g,.int .i64 i]) (t:=43) ?_;intro E hg c1 j hb;have U:=gw_ hg;obtain⟨y,V⟩:=qn_ d hg;replace d:=qbl_ d hb;replace HB:=hs_ hb;clear hb hg)|((with_reducible refine gd_ 4 ?_);refine by_ 4 (cs:= #[.int .i64 0,.slice none 0 0]) (t:=69) ?_;intro u hg c2 o hb;have X:=gw_ hg;obtain⟨v,F⟩:=qn_ d hg;obtain⟨x,z⟩:=qn_ j hg;replace d:=qbl_ d hb;replace j:=qbl_ j hb;replace HB:=hs_ hb;clear hb hg;obtain⟨l2,l3⟩:=nn_ y;obtain⟨e8,e9⟩:=nn_ v;obtain⟨f0,f1,f2,f3⟩:=bc2_ d)|((with_reducible refine gc_ 56 ?_);refine gl_ (some 7) Try.func56 #[.agg #[.int .i64 a,.slice l c.length m]] ?_;(with_reducible refine(spec_GraphOk.calls k a _ _ c true _ ?_ ?_ L.out).mono ?_);exact qC_ q HB;exact s.out;rintro e c3 ⟨rfl,hb⟩;refine⟨_,rfl,?_⟩;replace d:=qbl_ d hb;replace j:=qbl_ j hb;replace o:=qbl_ o hb;replace HB:=hs_ hb;clear hb;obtain⟨f4,f5,f6,f7⟩:=bc2_ d;obtain⟨f8,f9⟩:=nn_ x;obtain⟨g0,g1,g2,g3⟩:=bc2_ j)|(go_at_call 71;(with_reducible refine(spec_EdgeOk.calls a g i false _ Y.out).mono ?_);rintro e c4 ⟨rfl,hb⟩;replace d:=qbl_ d hb;replace j:=qbl_ j hb;replace o:=qbl_ o hb;replace HB:=hs_ hb;clear hb;obtain⟨g4,g5,g6,g7⟩:=bc2_ o))
  refine bodyPost_ret (results_ct rfl _ _ u 69 #[.int .i64 0,.slice none 0 0] (0,0) _ rfl (qp_ o) Try.underlying69 rfl (by kernel_rfl)) rfl ?_
  exact⟨_,qr_,by first|exact Kd.R_nil _ _ _ _ _|exact Kd.N_nil _ _ _ _ _|exact Kd.V_nil _ _ _ _ _|exact Kd.Q_nil _ _ _ _ _|exact Kd.S_nil _ _ _ _ _,qB_⟩
 obtain⟨a8,a9,H⟩:=bs_ H
 refine ie_ H ?_ ?_<;>clear H<;>rintro rfl H
 ·simp only[Option.some.injEq,Prod.mk.injEq]at H
  obtain⟨rfl,rfl,rfl⟩:=H
  go_enter Try.func87,Try.ntmps87
  go_wp2_with (first|((with_reducible refine gd_ 2 ?_);refine by_ 2 (cs:= #[.int .i64 a,.slice l c.length m]) (t:=69) ?_;intro D hg g8 d hb;have T:=gw_ hg;replace HB:=hs_ hb;clear hb hg)|((with_reducible refine gd_ 3 ?_);refine by_ 3 (cs:= #[.int .i64 g,.int .i64 i]) (t:=43) ?_;intro E hg c5 j hb;have U:=gw_ hg;obtain⟨y,V⟩:=qn_ d hg;replace d:=qbl_ d hb;replace HB:=hs_ hb;clear hb hg)|((with_reducible refine gd_ 4 ?_);refine by_ 4 (cs:= #[.int .i64 0,.slice none 0 0]) (t:=69) ?_;intro u hg c6 o hb;have X:=gw_ hg;obtain⟨v,F⟩:=qn_ d hg;obtain⟨x,z⟩:=qn_ j hg;replace d:=qbl_ d hb;replace j:=qbl_ j hb;replace HB:=hs_ hb;clear hb hg;obtain⟨g9,h0⟩:=nn_ y;obtain⟨h1,h2⟩:=nn_ v;obtain⟨h3,h4,h5,h6⟩:=bc2_ d)|((with_reducible refine gc_ 56 ?_);refine gl_ (some 7) Try.func56 #[.agg #[.int .i64 a,.slice l c.length m]] ?_;(with_reducible refine(spec_GraphOk.calls k a _ _ c true _ ?_ ?_ L.out).mono ?_);exact qC_ q HB;exact s.out;rintro e c7 ⟨rfl,hb⟩;refine⟨_,rfl,?_⟩;replace d:=qbl_ d hb;replace j:=qbl_ j hb;replace o:=qbl_ o hb;replace HB:=hs_ hb;clear hb;obtain⟨h7,h8,h9,i0⟩:=bc2_ d;obtain⟨i1,i2⟩:=nn_ x;obtain⟨i3,i4,i5,i6⟩:=bc2_ j)|(go_at_call 71;(with_reducible refine(spec_EdgeOk.calls a g i true _ Y.out).mono ?_);rintro e c8 ⟨rfl,hb⟩;replace d:=qbl_ d hb;replace j:=qbl_ j hb;replace o:=qbl_ o hb;replace HB:=hs_ hb;clear hb;obtain⟨i7,i8,i9,j3⟩:=bc2_ d;obtain⟨j5,j6,j7,j8⟩:=bc2_ j)|(go_at_call 46;(with_reducible refine(spec_HasEdge.calls k a _ _ c g i true _ ?_ ?_ a9.out).mono ?_);exact qC_ q HB;exact s.out;rintro e c9 ⟨rfl,hb⟩;replace d:=qbl_ d hb;replace j:=qbl_ j hb;replace o:=qbl_ o hb;replace HB:=hs_ hb;clear hb;obtain⟨j9,k0,k1,k2⟩:=bc2_ o))
  refine bodyPost_ret (results_ct rfl _ _ u 69 #[.int .i64 0,.slice none 0 0] (0,0) _ rfl (qp_ o) Try.underlying69 rfl (by kernel_rfl)) rfl ?_
  exact⟨_,qr_,by first|exact Kd.R_nil _ _ _ _ _|exact Kd.N_nil _ _ _ _ _|exact Kd.V_nil _ _ _ _ _|exact Kd.Q_nil _ _ _ _ _|exact Kd.S_nil _ _ _ _ _,qB_⟩
 obtain⟨B,Z,H⟩:=bs_ H
 simp only[Option.some.injEq,Prod.mk.injEq]at H
 obtain⟨rfl,rfl,rfl⟩:=H
 go_enter Try.func87,Try.ntmps87
 try go_wp2_with (first|((with_reducible refine gd_ 2 ?_);refine by_ 2 (cs:= #[.int .i64 a,.slice l c.length m]) (t:=69) ?_;intro D hg d0 d hb;have T:=gw_ hg;replace HB:=hs_ hb;clear hb hg)|((with_reducible refine gd_ 3 ?_);refine by_ 3 (cs:= #[.int .i64 g,.int .i64 i]) (t:=43) ?_;intro E hg d1 j hb;have U:=gw_ hg;obtain⟨y,V⟩:=qn_ d hg;replace d:=qbl_ d hb;replace HB:=hs_ hb;clear hb hg)|((with_reducible refine gd_ 4 ?_);refine by_ 4 (cs:= #[.int .i64 0,.slice none 0 0]) (t:=69) ?_;intro u hg d2 o hb;have X:=gw_ hg;obtain⟨v,F⟩:=qn_ d hg;obtain⟨x,z⟩:=qn_ j hg;replace d:=qbl_ d hb;replace j:=qbl_ j hb;replace HB:=hs_ hb;clear hb hg;obtain⟨k3,k4⟩:=nn_ y;obtain⟨k5,k6⟩:=nn_ v;obtain⟨k7,k8,k9,l4⟩:=bc2_ d)|((with_reducible refine gc_ 56 ?_);refine gl_ (some 7) Try.func56 #[.agg #[.int .i64 a,.slice l c.length m]] ?_;(with_reducible refine(spec_GraphOk.calls k a _ _ c true _ ?_ ?_ L.out).mono ?_);exact qC_ q HB;exact s.out;rintro e d3 ⟨rfl,hb⟩;refine⟨_,rfl,?_⟩;replace d:=qbl_ d hb;replace j:=qbl_ j hb;replace o:=qbl_ o hb;replace HB:=hs_ hb;clear hb;obtain⟨l5,l6,l7,l8⟩:=bc2_ d;obtain⟨l9,m0⟩:=nn_ x;obtain⟨m1,m2,m3,m4⟩:=bc2_ j)|(go_at_call 71;(with_reducible refine(spec_EdgeOk.calls a g i true _ Y.out).mono ?_);rintro e d4 ⟨rfl,hb⟩;replace d:=qbl_ d hb;replace j:=qbl_ j hb;replace o:=qbl_ o hb;replace HB:=hs_ hb;clear hb;obtain⟨j0,j1,j2,m5⟩:=bc2_ d;obtain⟨j4,m6,m7,m8⟩:=bc2_ j)|(go_at_call 46;(with_reducible refine(spec_HasEdge.calls k a _ _ c g i false _ ?_ ?_ a9.out).mono ?_);exact qC_ q HB;exact s.out;rintro e a0 ⟨rfl,hb⟩;replace d:=qbl_ d hb;replace j:=qbl_ j hb;replace o:=qbl_ o hb;replace HB:=hs_ hb;clear hb))
 replace d:=bd_ d;replace j:=bd_ j;replace o:=bd_ o;replace HB:=hd_ HB
 refine start_ (n:=9) (S:=fun w' =>w'.cell? ⟨D,0,none⟩=some (.int .i64 a)∧w'.cell? ⟨D,1,none⟩=some (.slice l c.length m)∧w'.cell? ⟨E,0,none⟩=some (.int .i64 g)∧w'.cell? ⟨E,1,none⟩=some (.int .i64 i)) (ds:=[]) (bm 9 0) (by kernel_rfl) rfl (by kernel_rfl) ⟨bl_ d 0,bl_ d 1,bl_ j 0,bl_ j 1⟩ (fun hHeld=> ?_);refine with_tabW spec_AddEdge.tab3 spec_AddEdge.bits3 (fun HT_ HW_=> ?_)
 generalize a0.drew=d5 at d j o HB hHeld ⊢
 refine pz_ 0 22 9 1 ?_;refine pz_ 2 24 9 5 ?_;refine tz4_ 1 23 9 7 ?_;refine tz4_ 3 25 9 15 ?_;refine tz4_ 4 26 9 31 ?_
 refine o1_ 5 (some 27) 9 63 (fun K hK=> ?_)
 refine gs_ Try.func127 #[.slice l c.length m,.agg #[.int .i64 g,.int .i64 i]] ?_
 with_reducible refine(spec_l05Put.calls k _ _ c g i B _ ?side1 ?side2 Z.out).mono ?_
 (case side1=>exact qC_ q HB)
 (case side2=>exact s.out)
 rintro e G ⟨m9,rfl,ho0,hb⟩
 refine⟨_,rfl,?_⟩
 have b0:=am_ (Kd.R_lower (Kd.R_newB ho0 (qk_ j)) (below_size qB_));replace d:=qbl_ d hb;replace j:=qbl_ j hb;replace o:=qbl_ o hb;replace HB:=hs_ hb;clear hb ho0
 obtain⟨b1,b2,b3⟩:=Kd.R_slice b0.out
 (first|subst b3|(injection b3 with I a1 J;have a2:=I.symm;have a3:=J.symm;clear I a1 J;subst a2;subst a3))
 refine hK.out _ _ ⟨bl_ d 0,bl_ d 1,bl_ j 0,bl_ j 1⟩ (fun hHeld=> ?_)
 clear hK K
 refine nm_ 27 ?_
 refine pz_ 6 28 9 127 ?_
 refine o1_ 7 none 9 255 (fun K hK=> ?_)
 have b4:G.cell? ⟨u,0,none⟩=some (.int .i64 0):=bl_ o 0
 have a4:=blk_frozen o.out 0
 have n0:=v.out;have n1:=x.out;have n2:=F.out;have n3:=z.out
 have b5:G.cell? ⟨u,1,none⟩=some (.slice none 0 0):=bl_ o 1
 have a5:=blk_frozen o.out 1
 have n4:=v.out;have n5:=x.out;have n6:=F.out;have n7:=z.out
 refine skip_ (w1:= ?_) (by rfl) rfl ?_ ?_
 rotate_left
 ·go_simp
  rfl
 refine hK.out _ _ ⟨((cell_far (p:=⟨u,_,none⟩) v.out _).trans (((cell_far (p:=⟨u,_,none⟩) v.out _).trans (hHeld.1)))),((cell_far (p:=⟨u,_,none⟩) v.out _).trans (((cell_far (p:=⟨u,_,none⟩) v.out _).trans (hHeld.2.1)))),((cell_far (p:=⟨u,_,none⟩) x.out _).trans (((cell_far (p:=⟨u,_,none⟩) x.out _).trans (hHeld.2.2.1)))),((cell_far (p:=⟨u,_,none⟩) x.out _).trans (((cell_far (p:=⟨u,_,none⟩) x.out _).trans (hHeld.2.2.2))))⟩ (fun hHeld=> ?_)
 clear hK K;refine pz_ 8 5 9 511 ?_
 refine done_ (done_of HT_.out (by kernel_rfl)) ?_
 try go_wp2
 refine bodyPost_ret (results_ct rfl _ _ u 69 #[.int .i64 a,.slice b1 B.length b2] (0,0) _ rfl (qp_ o) Try.underlying69 rfl (by kernel_rfl)) rfl ?_
 exact⟨_,qr_,by(with_reducible repeat(first|apply Kd.R_alloc|apply Kd.R_drewN|apply Kd.R_drew));exact Kd.R_mono (Kd.R_far (p:=⟨u,1,none⟩) (Kd.R_far (p:=⟨u,0,none⟩) (Kd.R_types b0.out o.out (by decide)) (fun _ hk=>hk.2) (.int .i64 a)) (fun _ hk=>hk.2) (.slice b1 B.length b2)) (fun _ hk=>trivial),qB_⟩
end Go.Proofs.Ytbkklafkoegdpaa.QFnLevels

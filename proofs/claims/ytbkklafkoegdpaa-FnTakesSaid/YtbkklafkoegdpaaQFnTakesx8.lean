import Derived.Test.YtbkklafkoegdpaaQFnTakesx7
namespace Go.Proofs.Ytbkklafkoegdpaa.QFnTakes
open Go.RowKit Go.Proofs.YtbkklafkoegdpaaW.PrintWords Go.Proofs.YtbkklafkoegdpaaW.PrintLast Go.Proofs.YtbkklafkoegdpaaW.PrintMore
set_option maxHeartbeats 8000000
set_option maxRecDepth 100000
set_option linter.unusedVariables false
set_option linter.unusedSimpArgs false
def impl_HeightOf.l0:Nat→Int→List (S72)→Int→Int→Option (Int)
  |0,_,_,_,_=>none
  |k + 1,x3,x11,x12,x13=>if x13<x12 then (if 0≤x13 then (if x13<(x11.length:Int) then (impl_HeightOf.l0 k (mx x3 ((rd_T72 x11 x13).f2)) x11 x12 (wrap64 (x13 + 1))) else (none)) else (none)) else (some x3)
def impl_HeightOf.f (k:Nat) (a0_0:Int) (l0_1:List (S72)):Option (Int):=(impl_WebOk.f k a0_0 l0_1).bind fun t192=>(if t192=true then (impl_HeightOf.l0 k (-1) l0_1 (l0_1.length:Int) 0) else (some (-1)))
theorem impl_HeightOf.calls (k:Nat) (d:Int) (g:Option Addr) (i:Nat) (a:List (S72)) (r:Int) (w:World) (hr0_1:Kd.C k72 w g a.length a) (hc0_1:a.length≤i) (h:impl_HeightOf.f k d a=some r):
  Calls Try.prog 27 #[.agg #[.int .i64 d,.slice g a.length i]] w fun e w' =>e= .returned (.int .i64 r)∧Below w.heap.size w w' :=by
 have hu29:=Try.underlying29;have hu72:=Try.underlying72
 have m:=am_ hr0_1
 have o:=am_ hc0_1
 clear hr0_1 hc0_1
 have HB:=am_ (Below.refl w.heap.size w)
 rw[impl_HeightOf.f]at h;have H:=h;clear h
 obtain⟨a2,y,H⟩:=bs_ H
 refine id_ H ?_ ?_<;>clear H<;>rintro rfl H
 ·obtain rfl:=oi_ H
  go_enter Try.func27,Try.ntmps27
  go_wp2_with (first|((with_reducible refine gd_ 1 ?_);refine by_ 1 (cs:= #[.int .i64 d,.slice g a.length i]) (t:=29) ?_;intro z hg I n hb;have J:=gw_ hg;replace HB:=hs_ hb;clear hb hg;obtain⟨a3,a4,a5,a6⟩:=bc2_ n)|((with_reducible refine gc_ 16 ?_);refine gl_ (some 7) Try.func16 #[.agg #[.int .i64 d,.slice g a.length i]] ?_;(with_reducible refine(impl_WebOk.calls k d _ _ a false _ ?_ ?_ y.out).mono ?_);exact qC_ m HB;exact o.out;rintro e L ⟨rfl,hb⟩;refine⟨_,rfl,?_⟩;replace n:=qbl_ n hb;replace HB:=hs_ hb;clear hb))
  go_ret
  exact⟨qr_,qB_⟩
 have H' :=am_ H;clear H
 go_enter Try.func27,Try.ntmps27
 go_wp2_with (first|((with_reducible refine gd_ 1 ?_);refine by_ 1 (cs:= #[.int .i64 d,.slice g a.length i]) (t:=29) ?_;intro z hg a7 n hb;have J:=gw_ hg;replace HB:=hs_ hb;clear hb hg;obtain⟨M,N,O,R⟩:=bc2_ n)|((with_reducible refine gc_ 16 ?_);refine gl_ (some 7) Try.func16 #[.agg #[.int .i64 d,.slice g a.length i]] ?_;(with_reducible refine(impl_WebOk.calls k d _ _ a true _ ?_ ?_ y.out).mono ?_);exact qC_ m HB;exact o.out;rintro e a8 ⟨rfl,hb⟩;refine⟨_,rfl,?_⟩;replace n:=qbl_ n hb;replace HB:=hs_ hb;clear hb;obtain⟨T,U,V,X⟩:=bc2_ n))
 go_loopg [3,13] k (fun kq v3 v13 w' =>∃ (j:Int) (c:Int),v3= .int .i64 j∧v13= .int .i64 c∧Aside0 (impl_HeightOf.l0 kq j a (a.length:Int) c=some r)∧Aside0 (kq≤k)∧Aside0 (w'.heap[z]? =some (.cells #[.int .i64 d,(.slice g a.length i)] 29 (0,0)))∧Aside0 (Below w.heap.size w w'))
 case atStart=>exact⟨((-1)),(0),qe_,qe_,H',⟨Nat.le_refl _⟩,⟨qk_ n⟩,⟨qB_⟩⟩
 case round=>
  clear H' M N T U O R V X
  obtain⟨j,c,rfl,rfl,HA,HK1,n,HB⟩:=hrel
  cases gk with
  |zero=>exact absurd HA.out (by simp [impl_HeightOf.l0])
  |succ Y=>
   have H:=HA.out;clear HA
   simp only[impl_HeightOf.l0]at H
   refine ib_ H ?_ ?_<;>clear H<;>intro A H
   ·obtain rfl:=oi_ H
    go_wp2
    go_ret
    exact⟨qr_,qB_⟩
   refine ig_ H ?_;clear H;intro B H
   refine ig_ H ?_;clear H;intro v H
   obtain⟨p,l⟩:∃ j_:Int,(mx j ((rd_T72 a c).f2))=j_:=⟨_,rfl⟩
   first|rw[l]at H|simp only[l]at H
   have hji11_:(if j<((rd_T72 a c).f2) then ((rd_T72 a c).f2) else j)=p:=l
   have H' :=am_ H;clear H
   have q:=dt_ c
   have s:=du_ c a.length
   obtain⟨x,u,D,E,F,G⟩:=at_T72 m.out c (ot_ q) (ot_ s)
   cases u
   replace D:=qx_ HB D
   replace E:=qx_ HB E
   replace F:=qx_ HB F
   replace G:=qx_ HB G
   go_wp2_with (first|((with_reducible refine gd_ 5 ?_);refine by_ 5 (cs:= #[.int .i64 0,.int .i64 0,.int .i64 0,.bool false]) (t:=72) ?_;intro b3 hg Z a0 hb;have b4:=gw_ hg;obtain⟨b5,a1⟩:=qn_ n hg;replace n:=qbl_ n hb;replace HB:=hs_ hb;clear hb hg;obtain⟨b6,b7⟩:=nn_ a1;obtain⟨b8,b9,c0,c1,c2,c3,c4,c5⟩:=bc4_ a0))
   go_roundg Y
   case measure=>have:=HK1.out;omega
   case rel=>exact⟨(p),(wrap64 (c + 1)),(by first|rfl|(simp;done)|(simp only[←l]<;>(first|rfl|simp))|(simp [*];done)),qe_,H',⟨by have:=HK1.out;omega⟩,⟨qf_ n⟩,⟨qB_⟩⟩
def impl_WebTogether.f (k:Nat) (a0_0:Int) (l0_1:List (S72)) (a1:Int) (a2:Int):Option (Bool):=(impl_WebOk.f k a0_0 l0_1).bind fun t196=>(if t196=true then ((impl_in.f a1 0 (wrap64 (a0_0 - 1))).bind fun t197=>(if t197=true then ((impl_in.f a2 0 (wrap64 (a0_0 - 1))).bind fun t198=>(if t198=true then ((impl_labelsAt.f k a0_0 l0_1 0).bind fun t199=>(if 0≤a1 then (if a1<(t199.length:Int) then (if 0≤a2 then (if a2<(t199.length:Int) then (some ((rd t199 a1)==(rd t199 a2))) else (none)) else (none)) else (none)) else (none))) else (some false))) else (some false))) else (some false))
theorem impl_WebTogether.calls (k:Nat) (a:Int) (j:Option Addr) (l:Nat) (c:List (S72)) (o:Int) (p:Int) (r:Bool) (w:World) (hr0_1:Kd.C k72 w j c.length c) (hc0_1:c.length≤l) (h:impl_WebTogether.f k a c o p=some r):
  Calls Try.prog 29 #[.agg #[.int .i64 a,.slice j c.length l],.int .i64 o,.int .i64 p] w fun e w' =>e= .returned (.bool r)∧Below w.heap.size w w' :=by
 have hu29:=Try.underlying29
 have d:=am_ hr0_1
 have g:=am_ hc0_1
 clear hr0_1 hc0_1
 have HB:=am_ (Below.refl w.heap.size w)
 rw[impl_WebTogether.f]at h;have H:=h;clear h
 obtain⟨d5,z,H⟩:=bs_ H
 refine id_ H ?_ ?_<;>clear H<;>rintro rfl H
 ·obtain rfl:=oi_ H
  go_enter Try.func29,Try.ntmps29
  go_wp2_with (first|((with_reducible refine gd_ 3 ?_);refine by_ 3 (cs:= #[.int .i64 a,.slice j c.length l]) (t:=29) ?_;intro E hg T i hb;have F:=gw_ hg;replace HB:=hs_ hb;clear hb hg;obtain⟨b9,c0,c1,c2⟩:=bc2_ i)|(go_at_call 16;(with_reducible refine(impl_WebOk.calls k a _ _ c false _ ?_ ?_ z.out).mono ?_);exact qC_ d HB;exact g.out;rintro e J ⟨rfl,hb⟩;replace i:=qbl_ i hb;replace HB:=hs_ hb;clear hb))
  repeat(go_quiet (first|(go_at_call 16;(with_reducible refine(impl_WebOk.calls k a _ _ c false _ ?_ ?_ z.out).mono ?_);exact qC_ d HB;exact g.out;rintro e J ⟨rfl,hb⟩;replace i:=qbl_ i hb;replace HB:=hs_ hb;(try clear hb);(try clear hb2);(try clear hk);(try clear hi)));try go_wp2_with (first|((with_reducible refine gd_ 3 ?_);refine by_ 3 (cs:= #[.int .i64 a,.slice j c.length l]) (t:=29) ?_;intro E hg T i hb;have F:=gw_ hg;replace HB:=hs_ hb;clear hb hg;obtain⟨b9,c0,c1,c2⟩:=bc2_ i)|(go_at_call 16;(with_reducible refine(impl_WebOk.calls k a _ _ c false _ ?_ ?_ z.out).mono ?_);exact qC_ d HB;exact g.out;rintro e J ⟨rfl,hb⟩;replace i:=qbl_ i hb;replace HB:=hs_ hb;(try clear hb);(try clear hb2);(try clear hk);(try clear hi))))
  go_ret
  exact⟨qr_,qB_⟩
 obtain⟨d6,B,H⟩:=bs_ H
 refine id_ H ?_ ?_<;>clear H<;>rintro rfl H
 ·obtain rfl:=oi_ H
  go_enter Try.func29,Try.ntmps29
  go_wp2_with (first|((with_reducible refine gd_ 3 ?_);refine by_ 3 (cs:= #[.int .i64 a,.slice j c.length l]) (t:=29) ?_;intro E hg U i hb;have F:=gw_ hg;replace HB:=hs_ hb;clear hb hg;obtain⟨c3,c4,c5,c6⟩:=bc2_ i)|(go_at_call 16;(with_reducible refine(impl_WebOk.calls k a _ _ c true _ ?_ ?_ z.out).mono ?_);exact qC_ d HB;exact g.out;rintro e L ⟨rfl,hb⟩;replace i:=qbl_ i hb;replace HB:=hs_ hb;clear hb;obtain⟨a2,a3,a4,a5⟩:=bc2_ i)|(go_at_call 66;(with_reducible refine(impl_in.calls o 0 (wrap64 (a - 1)) false _ B.out).mono ?_);rintro e w' ⟨rfl,⟨nd,rfl⟩⟩))
  repeat(go_quiet (first|(go_at_call 16;(with_reducible refine(impl_WebOk.calls k a _ _ c true _ ?_ ?_ z.out).mono ?_);exact qC_ d HB;exact g.out;rintro e L ⟨rfl,hb⟩;replace i:=qbl_ i hb;replace HB:=hs_ hb;(try clear hb);(try clear hb2);(try clear hk);(try clear hi);obtain⟨a2,a3,a4,a5⟩:=bc2_ i)|(go_at_call 66;(with_reducible refine(impl_in.calls o 0 (wrap64 (a - 1)) false _ B.out).mono ?_);rintro e w' ⟨rfl,⟨nd,rfl⟩⟩;(try first|exact⟨rfl,_,World.drewN_drewN _ _ _⟩|exact⟨rfl,_,Eq.trans (World.drewN_drewN _ _ _) (congrArg (World.drewN _) (Nat.add_assoc _ _ _))⟩)));try go_wp2_with (first|((with_reducible refine gd_ 3 ?_);refine by_ 3 (cs:= #[.int .i64 a,.slice j c.length l]) (t:=29) ?_;intro E hg U i hb;have F:=gw_ hg;replace HB:=hs_ hb;clear hb hg;obtain⟨c3,c4,c5,c6⟩:=bc2_ i)|(go_at_call 16;(with_reducible refine(impl_WebOk.calls k a _ _ c true _ ?_ ?_ z.out).mono ?_);exact qC_ d HB;exact g.out;rintro e L ⟨rfl,hb⟩;replace i:=qbl_ i hb;replace HB:=hs_ hb;(try clear hb);(try clear hb2);(try clear hk);(try clear hi);obtain⟨a2,a3,a4,a5⟩:=bc2_ i)|(go_at_call 66;(with_reducible refine(impl_in.calls o 0 (wrap64 (a - 1)) false _ B.out).mono ?_);rintro e w' ⟨rfl,⟨nd,rfl⟩⟩;(try first|exact⟨rfl,_,World.drewN_drewN _ _ _⟩|exact⟨rfl,_,Eq.trans (World.drewN_drewN _ _ _) (congrArg (World.drewN _) (Nat.add_assoc _ _ _))⟩))))
  go_ret
  exact⟨qr_,qB_⟩
 obtain⟨d7,I,H⟩:=bs_ H
 refine id_ H ?_ ?_<;>clear H<;>rintro rfl H
 ·obtain rfl:=oi_ H
  go_enter Try.func29,Try.ntmps29
  go_wp2_with (first|((with_reducible refine gd_ 3 ?_);refine by_ 3 (cs:= #[.int .i64 a,.slice j c.length l]) (t:=29) ?_;intro E hg V i hb;have F:=gw_ hg;replace HB:=hs_ hb;clear hb hg;obtain⟨c7,c8,c9,d0⟩:=bc2_ i)|(go_at_call 16;(with_reducible refine(impl_WebOk.calls k a _ _ c true _ ?_ ?_ z.out).mono ?_);exact qC_ d HB;exact g.out;rintro e M ⟨rfl,hb⟩;replace i:=qbl_ i hb;replace HB:=hs_ hb;clear hb;obtain⟨a6,a7,a8,a9⟩:=bc2_ i)|(go_at_call 66;(with_reducible refine(impl_in.calls o 0 (wrap64 (a - 1)) true _ B.out).mono ?_);rintro e w' ⟨rfl,⟨nd,rfl⟩⟩)|(go_at_call 66;(with_reducible refine(impl_in.calls p 0 (wrap64 (a - 1)) false _ I.out).mono ?_);rintro e w' ⟨rfl,⟨nd,rfl⟩⟩))
  repeat(go_quiet (first|(go_at_call 16;(with_reducible refine(impl_WebOk.calls k a _ _ c true _ ?_ ?_ z.out).mono ?_);exact qC_ d HB;exact g.out;rintro e M ⟨rfl,hb⟩;replace i:=qbl_ i hb;replace HB:=hs_ hb;(try clear hb);(try clear hb2);(try clear hk);(try clear hi);obtain⟨a6,a7,a8,a9⟩:=bc2_ i)|(go_at_call 66;(with_reducible refine(impl_in.calls o 0 (wrap64 (a - 1)) true _ B.out).mono ?_);rintro e w' ⟨rfl,⟨nd,rfl⟩⟩;(try first|exact⟨rfl,_,World.drewN_drewN _ _ _⟩|exact⟨rfl,_,Eq.trans (World.drewN_drewN _ _ _) (congrArg (World.drewN _) (Nat.add_assoc _ _ _))⟩))|(go_at_call 66;(with_reducible refine(impl_in.calls p 0 (wrap64 (a - 1)) false _ I.out).mono ?_);rintro e w' ⟨rfl,⟨nd,rfl⟩⟩;(try first|exact⟨rfl,_,World.drewN_drewN _ _ _⟩|exact⟨rfl,_,Eq.trans (World.drewN_drewN _ _ _) (congrArg (World.drewN _) (Nat.add_assoc _ _ _))⟩)));try go_wp2_with (first|((with_reducible refine gd_ 3 ?_);refine by_ 3 (cs:= #[.int .i64 a,.slice j c.length l]) (t:=29) ?_;intro E hg V i hb;have F:=gw_ hg;replace HB:=hs_ hb;clear hb hg;obtain⟨c7,c8,c9,d0⟩:=bc2_ i)|(go_at_call 16;(with_reducible refine(impl_WebOk.calls k a _ _ c true _ ?_ ?_ z.out).mono ?_);exact qC_ d HB;exact g.out;rintro e M ⟨rfl,hb⟩;replace i:=qbl_ i hb;replace HB:=hs_ hb;(try clear hb);(try clear hb2);(try clear hk);(try clear hi);obtain⟨a6,a7,a8,a9⟩:=bc2_ i)|(go_at_call 66;(with_reducible refine(impl_in.calls o 0 (wrap64 (a - 1)) true _ B.out).mono ?_);rintro e w' ⟨rfl,⟨nd,rfl⟩⟩;(try first|exact⟨rfl,_,World.drewN_drewN _ _ _⟩|exact⟨rfl,_,Eq.trans (World.drewN_drewN _ _ _) (congrArg (World.drewN _) (Nat.add_assoc _ _ _))⟩))|(go_at_call 66;(with_reducible refine(impl_in.calls p 0 (wrap64 (a - 1)) false _ I.out).mono ?_);rintro e w' ⟨rfl,⟨nd,rfl⟩⟩;(try first|exact⟨rfl,_,World.drewN_drewN _ _ _⟩|exact⟨rfl,_,Eq.trans (World.drewN_drewN _ _ _) (congrArg (World.drewN _) (Nat.add_assoc _ _ _))⟩))))
  go_ret
  exact⟨qr_,qB_⟩
 obtain⟨D,G,H⟩:=bs_ H
 refine ig_ H ?_;clear H;intro X H
 refine ig_ H ?_;clear H;intro Y H
 refine ig_ H ?_;clear H;intro Z H
 refine ig_ H ?_;clear H;intro a0 H
 obtain rfl:=oi_ H
 go_enter Try.func29,Try.ntmps29
 go_wp2_with (first|((with_reducible refine gd_ 3 ?_);refine by_ 3 (cs:= #[.int .i64 a,.slice j c.length l]) (t:=29) ?_;intro E hg a1 i hb;have F:=gw_ hg;replace HB:=hs_ hb;clear hb hg;obtain⟨d1,d2,d3,d4⟩:=bc2_ i)|(go_at_call 16;(with_reducible refine(impl_WebOk.calls k a _ _ c true _ ?_ ?_ z.out).mono ?_);exact qC_ d HB;exact g.out;rintro e N ⟨rfl,hb⟩;replace i:=qbl_ i hb;replace HB:=hs_ hb;clear hb;obtain⟨b0,b1,b2,b3⟩:=bc2_ i)|(go_at_call 66;(with_reducible refine(impl_in.calls o 0 (wrap64 (a - 1)) true _ B.out).mono ?_);rintro e w' ⟨rfl,⟨nd,rfl⟩⟩)|(go_at_call 66;(with_reducible refine(impl_in.calls p 0 (wrap64 (a - 1)) true _ I.out).mono ?_);rintro e w' ⟨rfl,⟨nd,rfl⟩⟩)|(go_at_call 67;(with_reducible refine(impl_labelsAt.calls k a _ _ c 0 D _ ?side1 ?side2 G.out).mono ?_);(case side1=>repeat(first|exact(Kd.C_below d.out qB_)|(with_reducible refine Kd.C_alloc ?_ _)|(with_reducible refine Kd.C_drewN ?_ _)|(with_reducible refine Kd.C_drew ?_)));(case side2=>exact g.out);rintro e O ⟨b4,rfl,ho0,hb⟩;have A:=am_ (Kd.R_lower ho0 (below_size qB_));replace i:=qbl_ i hb;replace HB:=hs_ hb;clear hb ho0;obtain⟨b5,b6,R⟩:=Kd.R_slice A.out;subst R;have q:=dt_ o;have s:=du_ o D.length;obtain⟨m,u,b7⟩:=Kd.at_int (Kd.R_reads' A.out).2.2 o (ot_ q) (ot_ s);cases u;have v:=dt_ p;have x:=du_ p D.length;obtain⟨n,y,b8⟩:=Kd.at_int (Kd.R_reads' A.out).2.2 p (ot_ v) (ot_ x);obtain rfl:m=n:=(by injection y);))
 repeat(go_quiet (first|(go_at_call 16;(with_reducible refine(impl_WebOk.calls k a _ _ c true _ ?_ ?_ z.out).mono ?_);exact qC_ d HB;exact g.out;rintro e N ⟨rfl,hb⟩;replace i:=qbl_ i hb;replace HB:=hs_ hb;(try clear hb);(try clear hb2);(try clear hk);(try clear hi);obtain⟨b0,b1,b2,b3⟩:=bc2_ i)|(go_at_call 66;(with_reducible refine(impl_in.calls o 0 (wrap64 (a - 1)) true _ B.out).mono ?_);rintro e w' ⟨rfl,⟨nd,rfl⟩⟩;(try first|exact⟨rfl,_,World.drewN_drewN _ _ _⟩|exact⟨rfl,_,Eq.trans (World.drewN_drewN _ _ _) (congrArg (World.drewN _) (Nat.add_assoc _ _ _))⟩))|(go_at_call 66;(with_reducible refine(impl_in.calls p 0 (wrap64 (a - 1)) true _ I.out).mono ?_);rintro e w' ⟨rfl,⟨nd,rfl⟩⟩;(try first|exact⟨rfl,_,World.drewN_drewN _ _ _⟩|exact⟨rfl,_,Eq.trans (World.drewN_drewN _ _ _) (congrArg (World.drewN _) (Nat.add_assoc _ _ _))⟩))|(go_at_call 67;(with_reducible refine(impl_labelsAt.calls k a _ _ c 0 D _ ?side1 ?side2 G.out).mono ?_);(case side1=>repeat(first|exact(Kd.C_below d.out qB_)|(with_reducible refine Kd.C_alloc ?_ _)|(with_reducible refine Kd.C_drewN ?_ _)|(with_reducible refine Kd.C_drew ?_)));(case side2=>exact g.out);rintro e O ⟨b4,rfl,ho0,hb⟩;have A:=am_ (Kd.R_lower ho0 (below_size qB_));replace i:=qbl_ i hb;replace HB:=hs_ hb;(try clear hb);(try clear hb2);(try clear hk);(try clear hi);(try clear ho0);obtain⟨b5,b6,R⟩:=Kd.R_slice A.out;subst R;have q:=dt_ o;have s:=du_ o D.length;obtain⟨m,u,b7⟩:=Kd.at_int (Kd.R_reads' A.out).2.2 o (ot_ q) (ot_ s);cases u;have v:=dt_ p;have x:=du_ p D.length;obtain⟨n,y,b8⟩:=Kd.at_int (Kd.R_reads' A.out).2.2 p (ot_ v) (ot_ x);obtain rfl:m=n:=(by injection y);));try go_wp2_with (first|((with_reducible refine gd_ 3 ?_);refine by_ 3 (cs:= #[.int .i64 a,.slice j c.length l]) (t:=29) ?_;intro E hg a1 i hb;have F:=gw_ hg;replace HB:=hs_ hb;clear hb hg;obtain⟨d1,d2,d3,d4⟩:=bc2_ i)|(go_at_call 16;(with_reducible refine(impl_WebOk.calls k a _ _ c true _ ?_ ?_ z.out).mono ?_);exact qC_ d HB;exact g.out;rintro e N ⟨rfl,hb⟩;replace i:=qbl_ i hb;replace HB:=hs_ hb;(try clear hb);(try clear hb2);(try clear hk);(try clear hi);obtain⟨b0,b1,b2,b3⟩:=bc2_ i)|(go_at_call 66;(with_reducible refine(impl_in.calls o 0 (wrap64 (a - 1)) true _ B.out).mono ?_);rintro e w' ⟨rfl,⟨nd,rfl⟩⟩;(try first|exact⟨rfl,_,World.drewN_drewN _ _ _⟩|exact⟨rfl,_,Eq.trans (World.drewN_drewN _ _ _) (congrArg (World.drewN _) (Nat.add_assoc _ _ _))⟩))|(go_at_call 66;(with_reducible refine(impl_in.calls p 0 (wrap64 (a - 1)) true _ I.out).mono ?_);rintro e w' ⟨rfl,⟨nd,rfl⟩⟩;(try first|exact⟨rfl,_,World.drewN_drewN _ _ _⟩|exact⟨rfl,_,Eq.trans (World.drewN_drewN _ _ _) (congrArg (World.drewN _) (Nat.add_assoc _ _ _))⟩))|(go_at_call 67;(with_reducible refine(impl_labelsAt.calls k a _ _ c 0 D _ ?side1 ?side2 G.out).mono ?_);(case side1=>repeat(first|exact(Kd.C_below d.out qB_)|(with_reducible refine Kd.C_alloc ?_ _)|(with_reducible refine Kd.C_drewN ?_ _)|(with_reducible refine Kd.C_drew ?_)));(case side2=>exact g.out);rintro e O ⟨b4,rfl,ho0,hb⟩;have A:=am_ (Kd.R_lower ho0 (below_size qB_));replace i:=qbl_ i hb;replace HB:=hs_ hb;(try clear hb);(try clear hb2);(try clear hk);(try clear hi);(try clear ho0);obtain⟨b5,b6,R⟩:=Kd.R_slice A.out;subst R;have q:=dt_ o;have s:=du_ o D.length;obtain⟨m,u,b7⟩:=Kd.at_int (Kd.R_reads' A.out).2.2 o (ot_ q) (ot_ s);cases u;have v:=dt_ p;have x:=du_ p D.length;obtain⟨n,y,b8⟩:=Kd.at_int (Kd.R_reads' A.out).2.2 p (ot_ v) (ot_ x);obtain rfl:m=n:=(by injection y);)))
 go_ret
 exact⟨qr_,qB_⟩
def spec_GraphOf.l0:Nat→Int→Int→List (S72)→Int→List (S43)→Option (Int × (List (S43)))
  |0,_,_,_,_,_=>none
  |k + 1,x4,x205000,x205001,x207000,x207001=>if x4<(x205001.length:Int) then (if 0≤x4 then (if x207001.length<8796093022208 then (spec_GraphOf.l0 k (wrap64 (x4 + 1)) x205000 x205001 x207000 (x207001++[(⟨(rd_T72 x205001 x4).f0,(rd_T72 x205001 x4).f1⟩:S43)])) else (none)) else (none)) else (some (x207000,x207001))
def spec_GraphOf.f (k:Nat) (a0_0:Int) (l0_1:List (S72)):Option (Int × (List (S43))):=spec_GraphOf.l0 k 0 a0_0 l0_1 a0_0 ([]:List (S43))
def spec_GraphOf.T5:Bool × List (List Nat × List Nat):=(true,[([],[]),([0],[0]),([],[]),([2],[2]),([],[]),([3,4],[3,4]),([5],[5]),([6],[6]),([],[]),([8],[8]),([],[]),([9,10],[9,10]),([11],[11]),([12],[12]),([7,13],[7,13]),([14],[14]),([1,15],[1,15]),([0,1,2,3,4,5,6,7,8,9,10,11,12,13,14,15,16],[]),([17,16,16,0,1,2,3,4,5,6,7,8,9,10,11,12,13,14,15,16],[16,17])])
def spec_GraphOf.B5:List Nat:=[0,1,0,4,0,28,60,124,0,256,0,1792,3840,7936,16380,32764,65535,131071,262143]
theorem spec_GraphOf.tab5:rtab .any (opsOf Try.f47 5)=spec_GraphOf.T5:=by kernel_rfl
theorem spec_GraphOf.bits5:waitsOk spec_GraphOf.T5.2 spec_GraphOf.B5=true:=by kernel_rfl
theorem spec_GraphOf.calls (k:Nat) (g:Int) (q:Option Addr) (m:Nat) (c:List (S72)) (X:Int) (Y:List (S43)) (w:World) (hr0_1:Kd.C k72 w q c.length c) (hc0_1:c.length≤m) (h:spec_GraphOf.f k g c=some (X,Y)):
  Calls Try.prog 47 #[.agg #[.int .i64 g,.slice q c.length m]] w fun e w' =>∃ E:Value,e= .returned (.agg #[.int .i64 X,E])∧Kd.R k43 43 w' w.heap.size (fun _=>True) E Y∧Below w.heap.size w w' :=by
 have hu29:=Try.underlying29;have hu69:=Try.underlying69;have hu43:=Try.underlying43
 have s:=am_ hr0_1
 have b6:=am_ hc0_1
 clear hr0_1 hc0_1
 have HB:=am_ (Below.refl w.heap.size w)
 have H:(spec_GraphOf.l0 k 0 g c g ([]:List (S43)))=some (X,Y):=h
 clear h;have H' :=am_ H;clear H
 go_enter Try.func47,Try.ntmps47
 go_wp2_with (first|((with_reducible refine gd_ 1 ?_);refine by_ 1 (cs:= #[.int .i64 g,.slice q c.length m]) (t:=29) ?_;intro b7 hg e9 j hb;have f4:=gw_ hg;replace HB:=hs_ hb;clear hb hg)|((with_reducible refine gd_ 2 ?_);refine by_ 2 (cs:= #[.int .i64 0,.slice none 0 0]) (t:=69) ?_;intro Z hg f5 o hb;have f6:=gw_ hg;obtain⟨b8,f7⟩:=qn_ j hg;replace j:=qbl_ j hb;replace HB:=hs_ hb;clear hb hg;obtain⟨j0,j1⟩:=nn_ b8;obtain⟨d7,d8,d9,e0⟩:=bc2_ j)|((with_reducible refine gd_ 3 ?_);refine by_ 3 (cs:= #[.int .i64 0,.slice none 0 0]) (t:=69) ?_;intro F hg f8 l hb;have f9:=gw_ hg;obtain⟨b9,c9⟩:=qn_ j hg;obtain⟨e1,c0⟩:=qn_ o hg;replace j:=qbl_ j hb;replace o:=qbl_ o hb;replace HB:=hs_ hb;clear hb hg;obtain⟨j2,j3⟩:=nn_ c9;obtain⟨j4,g0⟩:=nn_ c0;obtain⟨e2,e3,e4,e5⟩:=bc2_ l))
 go_loopg [4] k (fun kq v4 w' =>∃ (a:Int) (y:List (S43)) (D:Value),v4= .int .i64 a∧Aside0 (spec_GraphOf.l0 kq a g c g y=some (X,Y))∧Aside0 (kq≤k)∧Aside0 (Kd.R k43 43 w' w.heap.size (fun _=>True) D y)∧Aside0 (w'.heap[b7]? =some (.cells #[.int .i64 g,(.slice q c.length m)] 29 (0,0)))∧Aside0 (w'.heap[Z]? =some (.cells #[.int .i64 0,(.slice none 0 0)] 69 (0,0)))∧Aside0 (w'.heap[F]? =some (.cells #[.int .i64 g,D] 69 (0,0)))∧Aside0 (Below w.heap.size w w'))
 case atStart=>exact⟨(0),(([]:List (S43))),(.slice none 0 0),qe_,H',⟨Nat.le_refl _⟩,⟨by first|exact Kd.R_nil _ _ _ _ _|exact Kd.N_nil _ _ _ _ _|exact Kd.V_nil _ _ _ _ _|exact Kd.Q_nil _ _ _ _ _|exact Kd.S_nil _ _ _ _ _⟩,⟨qf_ j⟩,⟨qf_ o⟩,⟨qp_ l⟩,⟨qB_⟩⟩
 case round=>
  clear H' d7 d8 e2 e3 d9 e0 e4 e5
  obtain⟨a,y,D,rfl,HA,HK1,x,j,o,l,HB⟩:=hrel
  cases gk with
  |zero=>exact absurd HA.out (by simp [spec_GraphOf.l0])
  |succ e6=>
   have H:=HA.out;clear HA
   simp only[spec_GraphOf.l0]at H
   refine ib_ H ?_ ?_<;>clear H<;>intro c1 H
   ·simp only[Option.some.injEq,Prod.mk.injEq]at H
    obtain⟨rfl,rfl⟩:=H
    obtain⟨g5,g6⟩:=nn_ b8;obtain⟨g7,g8⟩:=nn_ b9
    obtain⟨g9,h0,h1,h2⟩:=bc2_ j
    obtain⟨h3,h4⟩:=nn_ c0
    obtain⟨h5,h6,h7,h8⟩:=bc2_ l
    obtain⟨h9,i0,i1,i2⟩:=bc2_ o
    obtain⟨d0,d1,e7⟩:=Kd.R_slice x.out
    subst e7
    go_wp2
    refine bodyPost_ret (results_cell_row rfl _ _ Z 69 #[.int .i64 g,.slice d0 y.length d1] (0,0) _ rfl (qp_ o) Try.underlying69 rfl (by kernel_rfl)) rfl ?_
    exact⟨_,qr_,by(with_reducible repeat(first|apply Kd.R_alloc|apply Kd.R_drewN|apply Kd.R_drew));exact Kd.R_mono (Kd.R_far (p:=⟨Z,1,none⟩) (Kd.R_far (p:=⟨Z,0,none⟩) (Kd.R_types x.out o.out (by decide)) (fun _ hk=>hk.2) (.int .i64 g)) (fun _ hk=>hk.2) (.slice d0 y.length d1)) (fun _ hk=>trivial),qB_⟩
   refine ig_ H ?_;clear H;intro c2 H
   refine jg_ H ?_;clear H;intro G H
   have z:=am_ G
   clear G
   generalize u:(y++[(⟨(rd_T72 c a).f0,(rd_T72 c a).f1⟩:S43)])=c3 at H;replace H:=bh_ H;have A:=am_ u.symm;clear u;have H' :=am_ H;clear H;obtain⟨i3,i4⟩:=nn_ b8;obtain⟨i5,i6⟩:=nn_ b9
   obtain⟨i7,i8,i9,j5⟩:=bc2_ j
   try go_wp2
   replace x:=rd_ x;replace j:=bd_ j;replace o:=bd_ o;replace l:=bd_ l;replace HB:=hd_ HB
   have I:=dt_ a
   have J:=du_ a c.length
   obtain⟨d,L,a0,a1,a2,a3⟩:=at_T72 s.out a (ot_ I) (ot_ J)
   have a4:=a3;have a5:=a2;have a6:=a1;have a7:=a0;cases L
   replace a0:=qx_ HB a0
   replace a1:=qx_ HB a1
   replace a2:=qx_ HB a2
   replace a3:=qx_ HB a3
   have M:=dt_ a
   have O:=du_ a c.length
   obtain⟨B,T,a8,a9,b0,b1⟩:=at_T72 s.out a (ot_ M) (ot_ O)
   have b2:=b1;have b3:=b0;have b4:=a9;have b5:=a8
   obtain rfl:d=B:=(by injection T)
   replace a8:=qx_ HB a8
   replace a9:=qx_ HB a9
   replace b0:=qx_ HB b0
   replace b1:=qx_ HB b1
   refine start_ (n:=19) (S:=fun w' =>w'.cell? ⟨F,0,none⟩=some (.int .i64 g)∧w'.cell? ⟨F,1,none⟩=some (D)∧w'.cell? ⟨b7,0,none⟩=some (.int .i64 g)∧w'.cell? ⟨b7,1,none⟩=some (.slice (some d) c.length m)∧w'.cell? (d.add ((a).toNat * 4))=some (.int .i64 ((rd_T72 c a).f0))∧w'.cell? ⟨(d.add ((a).toNat * 4)).block,(d.add ((a).toNat * 4)).off + 1,none⟩=some (.int .i64 ((rd_T72 c a).f1))∧w'.cell? ⟨(d.add ((a).toNat * 4)).block,(d.add ((a).toNat * 4)).off + 2,none⟩=some (.int .i64 ((rd_T72 c a).f2))∧w'.cell? ⟨(d.add ((a).toNat * 4)).block,(d.add ((a).toNat * 4)).off + 3,none⟩=some (.bool ((rd_T72 c a).f3))∧w'.cell? (d.add ((a).toNat * 4))=some (.int .i64 ((rd_T72 c a).f0))∧w'.cell? ⟨(d.add ((a).toNat * 4)).block,(d.add ((a).toNat * 4)).off + 1,none⟩=some (.int .i64 ((rd_T72 c a).f1))∧w'.cell? ⟨(d.add ((a).toNat * 4)).block,(d.add ((a).toNat * 4)).off + 2,none⟩=some (.int .i64 ((rd_T72 c a).f2))∧w'.cell? ⟨(d.add ((a).toNat * 4)).block,(d.add ((a).toNat * 4)).off + 3,none⟩=some (.bool ((rd_T72 c a).f3))) (ds:=[18]) (bm 19 0) (by kernel_rfl) rfl (by kernel_rfl) ⟨bl_ l 0,bl_ l 1,bl_ j 0,bl_ j 1,((qx_ HB a7).trans rfl),((qx_ HB a6).trans rfl),((qx_ HB a5).trans rfl),((qx_ HB a4).trans rfl),((qx_ HB b5).trans rfl),((qx_ HB b4).trans rfl),((qx_ HB b3).trans rfl),((qx_ HB b2).trans rfl)⟩ (fun hHeld=> ?_);refine with_tabW spec_GraphOf.tab5 spec_GraphOf.bits5 (fun HT_ HW_=> ?_)
   generalize wr.drew=e8 at x j o l HB a0 a1 a2 a3 a8 a9 b0 b1 hHeld ⊢
   refine pz_ 0 15 19 1 ?_;refine pz_ 2 17 19 5 ?_;refine pz_ 4 19 19 21 ?_;refine pz_ 8 23 19 277 ?_;refine pz_ 10 25 19 1301 ?_;refine tz12_ 1 16 (bm 19 1303) ?_;refine tz12_ 3 18 (bm 19 1311) ?_;refine pz_ 5 20 19 1343 ?_;refine pz_ 6 21 19 1407 ?_;refine tz12_ 7 22 (bm 19 1535) ?_;refine tz12_ 9 24 (bm 19 2047) ?_;refine pz_ 11 26 19 4095 ?_;refine pz_ 12 27 19 8191 ?_;refine tz12_ 13 28 (bm 19 16383) ?_;refine pz_ 14 29 19 32767 ?_
   refine o1_ 15 (some 30) 19 65535 (fun K hK=> ?_)
   refine value_ (w1:= ?_) (v:= ?_) (by rfl) rfl ?_ ?_
   rotate_left 2
   ·go_simp
    constructor
    ·rfl
    rfl
   refine hK.out _ _ ⟨(blk_cell (blk_alloc l.out _) 0).trans rfl,(blk_cell (blk_alloc l.out _) 1).trans rfl,(blk_cell (blk_alloc j.out _) 0).trans rfl,(blk_cell (blk_alloc j.out _) 1).trans rfl,(World.cell?_alloc_lt _ _ _ (World.block_lt_of_cell? _ _ (((qx_ HB a7).trans rfl)))).trans (((qx_ HB a7).trans rfl)),(World.cell?_alloc_lt _ _ _ (World.block_lt_of_cell? _ _ (((qx_ HB a6).trans rfl)))).trans (((qx_ HB a6).trans rfl)),(World.cell?_alloc_lt _ _ _ (World.block_lt_of_cell? _ _ (((qx_ HB a5).trans rfl)))).trans (((qx_ HB a5).trans rfl)),(World.cell?_alloc_lt _ _ _ (World.block_lt_of_cell? _ _ (((qx_ HB a4).trans rfl)))).trans (((qx_ HB a4).trans rfl)),(World.cell?_alloc_lt _ _ _ (World.block_lt_of_cell? _ _ (((qx_ HB b5).trans rfl)))).trans (((qx_ HB b5).trans rfl)),(World.cell?_alloc_lt _ _ _ (World.block_lt_of_cell? _ _ (((qx_ HB b4).trans rfl)))).trans (((qx_ HB b4).trans rfl)),(World.cell?_alloc_lt _ _ _ (World.block_lt_of_cell? _ _ (((qx_ HB b3).trans rfl)))).trans (((qx_ HB b3).trans rfl)),(World.cell?_alloc_lt _ _ _ (World.block_lt_of_cell? _ _ (((qx_ HB b2).trans rfl)))).trans (((qx_ HB b2).trans rfl))⟩ (fun hHeld=> ?_)
   clear hK K
   refine nm_ 30 ?_
   refine o1_ 16 (some 31) 19 131071 (fun K hK=> ?_)
   refine Kd.R_append_step k43 (w0:=w) w.heap.size (by rfl) (.tmp 16) (.tmp 30) 67 43 (.agg #[(.int .i64 0),(.int .i64 0)]) 16 rfl Try.underlying67 info43 rfl (by decide) (by omega) D y (⟨(rd_T72 c a).f0,(rd_T72 c a).f1⟩:S43) [.int .i64 ((rd_T72 c a).f0),.int .i64 ((rd_T72 c a).f1)] (fun _=>True) (fun _=>False) rfl rfl ?aP (fun _ hk=>hk.elim) ?aF ?aO ?aB ?aS ?aL ?_
   (case aP=>exact k43_mkM _ _ _ (⟨(rd_T72 c a).f0,(rd_T72 c a).f1⟩:S43))
   (case aB=>exact qB_)
   (case aF=>exact(fun _ _=>trivial))
   (case aO=>exact(qR_ x))
   (case aS=>exact(below_size qB_))
   (case aL=>have:=z.out;omega)
   intro j6 c4 ho hb hg hat
   rw[←A.out]at ho
   have d2:=am_ (ho);replace j:=am_ (blk_grown (qk_ j) hg (Kd.R_ne x.out j.out (by decide)));replace o:=am_ (blk_grown (qk_ o) hg (Kd.R_ne x.out o.out (by decide)));replace l:=am_ (blk_grown (qk_ l) hg (Kd.R_ne x.out l.out (by decide)));replace HB:=am_ (hb);clear x ho hb hg hat
   obtain⟨d3,d4,d5⟩:=Kd.R_slice d2.out
   (first|subst d5|(injection d5 with U c5 V;have c6:=U.symm;have c7:=V.symm;clear U c5 V;subst c6;subst c7))
   refine hK.out _ _ ⟨bl_ l 0,bl_ l 1,bl_ j 0,bl_ j 1,((qx_ HB a7).trans rfl),((qx_ HB a6).trans rfl),((qx_ HB a5).trans rfl),((qx_ HB a4).trans rfl),((qx_ HB b5).trans rfl),((qx_ HB b4).trans rfl),((qx_ HB b3).trans rfl),((qx_ HB b2).trans rfl)⟩ (fun hHeld=> ?_)
   clear hK K
   refine nm_ 31 ?_
   refine pz_ 17 32 19 262143 ?_
   refine last_ (i:=18) (N:=none) (bm 19 524287) rfl rfl (one_of HT_.out (by kernel_rfl)) (by decide) (fun K hK=> ?_)
   have d6:c4.cell? ⟨F,1,none⟩=some (D):=bl_ l 1
   have c8:=blk_frozen l.out 1
   have j7:=b9.out;have j8:=e1.out;have j9:=c9.out;have k0:=c0.out
   refine skip_ (w1:= ?_) (by rfl) rfl ?_ ?_
   rotate_left
   ·go_simp
    rfl
   refine hK.out _ _ ?_
   clear hK K
   refine done_ (done_of HT_.out (by kernel_rfl)) ?_
   try go_wp2
   go_roundg e6
   case measure=>have:=HK1.out;omega
   case rel=>exact⟨(wrap64 (a + 1)),(c3),(.slice d3 c3.length d4),qe_,H',⟨by have:=HK1.out;omega⟩,⟨by(with_reducible repeat(first|apply Kd.R_alloc|apply Kd.R_drewN|apply Kd.R_drew));exact Kd.R_mono (Kd.R_far (p:=⟨F,1,none⟩) (Kd.R_types d2.out l.out (by decide)) (fun _ hk=>hk.2) (.slice d3 c3.length d4)) (fun _ hk=>trivial)⟩,⟨qf_ j⟩,⟨qf_ o⟩,⟨qp_ l⟩,⟨qB_⟩⟩
def spec_l01In.f (a0:Int) (a1:Int) (a2:Int):Option (Bool):=if a0≥a1 then (some (decide (a0≤a2))) else (some false)
theorem spec_l01In.calls (c:Int) (d:Int) (i:Int) (r:Bool) (w:World) (h:spec_l01In.f c d i=some r):
  Calls Try.prog 57 #[.int .i64 c,.int .i64 d,.int .i64 i] w fun e w' =>e= .returned (.bool r)∧Drawn0 w w' :=by
 rw[spec_l01In.f]at h;have H:=h;clear h
 refine jc_ H ?_ ?_<;>clear H<;>intro g H
 ·have a:decide (d≤c)=true:=decide_eq_true g
  clear g
  obtain rfl:=oi_ H
  go_enter Try.func57,Try.ntmps57
  go_wp2
  go_ret
  exact⟨by first|rfl|(simp;done)|(simp [*];done),by repeat(first|exact Drawn0.refl _|apply Drawn0.step)⟩
 have a:decide (d≤c)=false:=decide_eq_false g
 clear g
 obtain rfl:=oi_ H
 go_enter Try.func57,Try.ntmps57
 go_wp2
 go_ret
 exact⟨by first|rfl|(simp;done)|(simp [*];done),by repeat(first|exact Drawn0.refl _|apply Drawn0.step)⟩
def spec_EdgeOk.f (a0:Int) (a1_0:Int) (a1_1:Int):Option (Bool):=(spec_l01In.f a0 1 12).bind fun t213=>(if t213=true then ((spec_l01In.f a1_0 0 (wrap64 (a0 - 1))).bind fun t214=>(if t214=true then ((spec_l01In.f a1_1 0 (wrap64 (a0 - 1))).bind fun t215=>(if t215=true then (some (decide (a1_0<a1_1))) else (some false))) else (some false))) else (some false))
theorem spec_EdgeOk.calls (d:Int) (a:Int) (c:Int) (r:Bool) (w:World) (h:spec_EdgeOk.f d a c=some r):
  Calls Try.prog 71 #[.int .i64 d,.agg #[.int .i64 a,.int .i64 c]] w fun e w' =>e= .returned (.bool r)∧Below w.heap.size w w' :=by
 have hu43:=Try.underlying43
 have HB:=am_ (Below.refl w.heap.size w)
 rw[spec_EdgeOk.f]at h;have H:=h;clear h
 obtain⟨s,i,H⟩:=bs_ H
 refine id_ H ?_ ?_<;>clear H<;>rintro rfl H
 ·obtain rfl:=oi_ H
  go_enter Try.func71,Try.ntmps71
  go_wp2_with (first|((with_reducible refine gd_ 3 ?_);refine by_ 3 (cs:= #[.int .i64 a,.int .i64 c]) (t:=43) ?_;intro j hg o g hb;have l:=gw_ hg;replace HB:=hs_ hb;clear hb hg)|((with_reducible refine gc_ 57 ?_);refine gl_ (some 6) Try.func57 #[.int .i64 d,.int .i64 1,.int .i64 12] ?_;(with_reducible refine(spec_l01In.calls d 1 12 false _ i.out).mono ?_);rintro e w' ⟨rfl,⟨nd,rfl⟩⟩;refine⟨_,rfl,?_⟩))
  go_ret
  exact⟨qr_,qB_⟩
 obtain⟨u,m,H⟩:=bs_ H
 refine id_ H ?_ ?_<;>clear H<;>rintro rfl H
 ·obtain rfl:=oi_ H
  go_enter Try.func71,Try.ntmps71
  go_wp2_with (first|((with_reducible refine gd_ 3 ?_);refine by_ 3 (cs:= #[.int .i64 a,.int .i64 c]) (t:=43) ?_;intro j hg p g hb;have l:=gw_ hg;replace HB:=hs_ hb;clear hb hg)|((with_reducible refine gc_ 57 ?_);refine gl_ (some 6) Try.func57 #[.int .i64 d,.int .i64 1,.int .i64 12] ?_;(with_reducible refine(spec_l01In.calls d 1 12 true _ i.out).mono ?_);rintro e w' ⟨rfl,⟨nd,rfl⟩⟩;refine⟨_,rfl,?_⟩;obtain⟨v,x,y,z⟩:=bc2_ g)|(go_at_call 57;(with_reducible refine(spec_l01In.calls a 0 (wrap64 (d - 1)) false _ m.out).mono ?_);rintro e w' ⟨rfl,⟨nd,rfl⟩⟩))
  go_ret
  exact⟨qr_,qB_⟩
 obtain⟨A,n,H⟩:=bs_ H
 refine ie_ H ?_ ?_<;>clear H<;>rintro rfl H
 ·obtain rfl:=oi_ H
  go_enter Try.func71,Try.ntmps71
  go_wp2_with (first|((with_reducible refine gd_ 3 ?_);refine by_ 3 (cs:= #[.int .i64 a,.int .i64 c]) (t:=43) ?_;intro j hg B g hb;have l:=gw_ hg;replace HB:=hs_ hb;clear hb hg)|((with_reducible refine gc_ 57 ?_);refine gl_ (some 6) Try.func57 #[.int .i64 d,.int .i64 1,.int .i64 12] ?_;(with_reducible refine(spec_l01In.calls d 1 12 true _ i.out).mono ?_);rintro e w' ⟨rfl,⟨nd,rfl⟩⟩;refine⟨_,rfl,?_⟩;obtain⟨C,D,E,F⟩:=bc2_ g)|(go_at_call 57;(with_reducible refine(spec_l01In.calls a 0 (wrap64 (d - 1)) true _ m.out).mono ?_);rintro e w' ⟨rfl,⟨nd,rfl⟩⟩)|(go_at_call 57;(with_reducible refine(spec_l01In.calls c 0 (wrap64 (d - 1)) true _ n.out).mono ?_);rintro e w' ⟨rfl,⟨nd,rfl⟩⟩))
  go_ret
  exact⟨qr_,qB_⟩
 obtain rfl:=oi_ H
 go_enter Try.func71,Try.ntmps71
 go_wp2_with (first|((with_reducible refine gd_ 3 ?_);refine by_ 3 (cs:= #[.int .i64 a,.int .i64 c]) (t:=43) ?_;intro j hg q g hb;have l:=gw_ hg;replace HB:=hs_ hb;clear hb hg)|((with_reducible refine gc_ 57 ?_);refine gl_ (some 6) Try.func57 #[.int .i64 d,.int .i64 1,.int .i64 12] ?_;(with_reducible refine(spec_l01In.calls d 1 12 true _ i.out).mono ?_);rintro e w' ⟨rfl,⟨nd,rfl⟩⟩;refine⟨_,rfl,?_⟩;obtain⟨G,I,J,L⟩:=bc2_ g)|(go_at_call 57;(with_reducible refine(spec_l01In.calls a 0 (wrap64 (d - 1)) true _ m.out).mono ?_);rintro e w' ⟨rfl,⟨nd,rfl⟩⟩)|(go_at_call 57;(with_reducible refine(spec_l01In.calls c 0 (wrap64 (d - 1)) false _ n.out).mono ?_);rintro e w' ⟨rfl,⟨nd,rfl⟩⟩))
 go_ret
 exact⟨qr_,qB_⟩
def spec_l05Less.f (a0_0:Int) (a0_1:Int) (a1_0:Int) (a1_1:Int):Option (Bool):=if a0_0<a1_0 then (some true) else (if a0_0=a1_0 then (some (decide (a0_1<a1_1))) else (some false))
theorem spec_l05Less.calls (a:Int) (d:Int) (c:Int) (g:Int) (r:Bool) (w:World) (h:spec_l05Less.f a d c g=some r):
  Calls Try.prog 135 #[.agg #[.int .i64 a,.int .i64 d],.agg #[.int .i64 c,.int .i64 g]] w fun e w' =>e= .returned (.bool r)∧Below w.heap.size w w' :=by
 have hu43:=Try.underlying43
 have HB:=am_ (Below.refl w.heap.size w)
 rw[spec_l05Less.f]at h;have H:=h;clear h
 refine ic_ H ?_ ?_<;>clear H<;>intro p H
 ·obtain rfl:=oi_ H
  go_enter Try.func135,Try.ntmps135
  go_wp2_with (first|((with_reducible refine gd_ 2 ?_);refine by_ 2 (cs:= #[.int .i64 a,.int .i64 d]) (t:=43) ?_;intro q hg C i hb;have s:=gw_ hg;replace HB:=hs_ hb;clear hb hg)|((with_reducible refine gd_ 3 ?_);refine by_ 3 (cs:= #[.int .i64 c,.int .i64 g]) (t:=43) ?_;intro u hg D j hb;have v:=gw_ hg;obtain⟨l,x⟩:=qn_ i hg;replace i:=qbl_ i hb;replace HB:=hs_ hb;clear hb hg;obtain⟨E,F⟩:=nn_ l;obtain⟨G,I,J,L⟩:=bc2_ i;obtain⟨M,N,O,R⟩:=bc2_ j))
  go_ret
  exact⟨qr_,qB_⟩
 refine jc_ H ?_ ?_<;>clear H<;>intro m H
 ·have n:(a==c)=true:=beq_iff_eq.mpr m
  have o:(a != c)=false:=bne_eq_false_iff_eq.mpr m
  clear m
  obtain rfl:=oi_ H
  go_enter Try.func135,Try.ntmps135
  go_wp2_with (first|((with_reducible refine gd_ 2 ?_);refine by_ 2 (cs:= #[.int .i64 a,.int .i64 d]) (t:=43) ?_;intro q hg y i hb;have s:=gw_ hg;replace HB:=hs_ hb;clear hb hg)|((with_reducible refine gd_ 3 ?_);refine by_ 3 (cs:= #[.int .i64 c,.int .i64 g]) (t:=43) ?_;intro u hg z j hb;have v:=gw_ hg;obtain⟨l,x⟩:=qn_ i hg;replace i:=qbl_ i hb;replace HB:=hs_ hb;clear hb hg;obtain⟨T,U⟩:=nn_ l;obtain⟨V,X,Y,Z⟩:=bc2_ i;obtain⟨a0,a1,a2,a3⟩:=bc2_ j))
  go_ret
  exact⟨qr_,qB_⟩
 have n:(a==c)=false:=beq_eq_false_iff_ne.mpr m
 have o:(a != c)=true:=bne_iff_ne.mpr m
 obtain rfl:=oi_ H
 go_enter Try.func135,Try.ntmps135
 go_wp2_with (first|((with_reducible refine gd_ 2 ?_);refine by_ 2 (cs:= #[.int .i64 a,.int .i64 d]) (t:=43) ?_;intro q hg A i hb;have s:=gw_ hg;replace HB:=hs_ hb;clear hb hg)|((with_reducible refine gd_ 3 ?_);refine by_ 3 (cs:= #[.int .i64 c,.int .i64 g]) (t:=43) ?_;intro u hg B j hb;have v:=gw_ hg;obtain⟨l,x⟩:=qn_ i hg;replace i:=qbl_ i hb;replace HB:=hs_ hb;clear hb hg;obtain⟨a4,a5⟩:=nn_ l;obtain⟨a6,a7,a8,a9⟩:=bc2_ i;obtain⟨b0,b1,b2,b3⟩:=bc2_ j))
 go_ret
 exact⟨qr_,qB_⟩
end Go.Proofs.Ytbkklafkoegdpaa.QFnTakes

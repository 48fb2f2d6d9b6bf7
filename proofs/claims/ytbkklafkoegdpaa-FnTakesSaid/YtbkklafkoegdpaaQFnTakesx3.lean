import Derived.Test.YtbkklafkoegdpaaQFnTakesx0
namespace Go.Proofs.Ytbkklafkoegdpaa.QFnTakes
open Go.RowKit Go.Proofs.YtbkklafkoegdpaaW.PrintWords Go.Proofs.YtbkklafkoegdpaaW.PrintLast Go.Proofs.YtbkklafkoegdpaaW.PrintMore
set_option maxHeartbeats 8000000
set_option maxRecDepth 100000
set_option linter.unusedVariables false
set_option linter.unusedSimpArgs false
def impl_in.f (a0:Int) (a1:Int) (a2:Int):Option (Bool):=if a0≥a1 then (some (decide (a0≤a2))) else (some false)
theorem impl_in.calls (c:Int) (d:Int) (i:Int) (r:Bool) (w:World) (h:impl_in.f c d i=some r):
  Calls Try.prog 66 #[.int .i64 c,.int .i64 d,.int .i64 i] w fun e w' =>e= .returned (.bool r)∧Drawn0 w w' :=by
 rw[impl_in.f]at h;have H:=h;clear h
 refine jc_ H ?_ ?_<;>clear H<;>intro g H
 ·have a:decide (d≤c)=true:=decide_eq_true g
  clear g
  obtain rfl:=oi_ H
  go_enter Try.func66,Try.ntmps66
  go_wp2
  go_ret
  exact⟨by first|rfl|(simp;done)|(simp [*];done),by repeat(first|exact Drawn0.refl _|apply Drawn0.step)⟩
 have a:decide (d≤c)=false:=decide_eq_false g
 clear g
 obtain rfl:=oi_ H
 go_enter Try.func66,Try.ntmps66
 go_wp2
 go_ret
 exact⟨by first|rfl|(simp;done)|(simp [*];done),by repeat(first|exact Drawn0.refl _|apply Drawn0.step)⟩
def impl_EdgeOk.f (a0:Int) (a1_0:Int) (a1_1:Int):Option (Bool):=(impl_in.f a0 1 12).bind fun t102=>(if t102=true then ((impl_in.f a1_0 0 (wrap64 (a0 - 1))).bind fun t103=>(if t103=true then ((impl_in.f a1_1 0 (wrap64 (a0 - 1))).bind fun t104=>(if t104=true then (some (decide (a1_0<a1_1))) else (some false))) else (some false))) else (some false))
theorem impl_EdgeOk.calls (d:Int) (a:Int) (c:Int) (r:Bool) (w:World) (h:impl_EdgeOk.f d a c=some r):
  Calls Try.prog 76 #[.int .i64 d,.agg #[.int .i64 a,.int .i64 c]] w fun e w' =>e= .returned (.bool r)∧Below w.heap.size w w' :=by
 have hu43:=Try.underlying43
 have HB:=am_ (Below.refl w.heap.size w)
 rw[impl_EdgeOk.f]at h;have H:=h;clear h
 obtain⟨s,i,H⟩:=bs_ H
 refine id_ H ?_ ?_<;>clear H<;>rintro rfl H
 ·obtain rfl:=oi_ H
  go_enter Try.func76,Try.ntmps76
  go_wp2_with (first|((with_reducible refine gd_ 3 ?_);refine by_ 3 (cs:= #[.int .i64 a,.int .i64 c]) (t:=43) ?_;intro j hg o g hb;have l:=gw_ hg;replace HB:=hs_ hb;clear hb hg)|((with_reducible refine gc_ 66 ?_);refine gl_ (some 6) Try.func66 #[.int .i64 d,.int .i64 1,.int .i64 12] ?_;(with_reducible refine(impl_in.calls d 1 12 false _ i.out).mono ?_);rintro e w' ⟨rfl,⟨nd,rfl⟩⟩;refine⟨_,rfl,?_⟩))
  go_ret
  exact⟨qr_,qB_⟩
 obtain⟨u,m,H⟩:=bs_ H
 refine id_ H ?_ ?_<;>clear H<;>rintro rfl H
 ·obtain rfl:=oi_ H
  go_enter Try.func76,Try.ntmps76
  go_wp2_with (first|((with_reducible refine gd_ 3 ?_);refine by_ 3 (cs:= #[.int .i64 a,.int .i64 c]) (t:=43) ?_;intro j hg p g hb;have l:=gw_ hg;replace HB:=hs_ hb;clear hb hg)|((with_reducible refine gc_ 66 ?_);refine gl_ (some 6) Try.func66 #[.int .i64 d,.int .i64 1,.int .i64 12] ?_;(with_reducible refine(impl_in.calls d 1 12 true _ i.out).mono ?_);rintro e w' ⟨rfl,⟨nd,rfl⟩⟩;refine⟨_,rfl,?_⟩;obtain⟨v,x,y,z⟩:=bc2_ g)|(go_at_call 66;(with_reducible refine(impl_in.calls a 0 (wrap64 (d - 1)) false _ m.out).mono ?_);rintro e w' ⟨rfl,⟨nd,rfl⟩⟩))
  go_ret
  exact⟨qr_,qB_⟩
 obtain⟨A,n,H⟩:=bs_ H
 refine ie_ H ?_ ?_<;>clear H<;>rintro rfl H
 ·obtain rfl:=oi_ H
  go_enter Try.func76,Try.ntmps76
  go_wp2_with (first|((with_reducible refine gd_ 3 ?_);refine by_ 3 (cs:= #[.int .i64 a,.int .i64 c]) (t:=43) ?_;intro j hg B g hb;have l:=gw_ hg;replace HB:=hs_ hb;clear hb hg)|((with_reducible refine gc_ 66 ?_);refine gl_ (some 6) Try.func66 #[.int .i64 d,.int .i64 1,.int .i64 12] ?_;(with_reducible refine(impl_in.calls d 1 12 true _ i.out).mono ?_);rintro e w' ⟨rfl,⟨nd,rfl⟩⟩;refine⟨_,rfl,?_⟩;obtain⟨C,D,E,F⟩:=bc2_ g)|(go_at_call 66;(with_reducible refine(impl_in.calls a 0 (wrap64 (d - 1)) true _ m.out).mono ?_);rintro e w' ⟨rfl,⟨nd,rfl⟩⟩)|(go_at_call 66;(with_reducible refine(impl_in.calls c 0 (wrap64 (d - 1)) true _ n.out).mono ?_);rintro e w' ⟨rfl,⟨nd,rfl⟩⟩))
  go_ret
  exact⟨qr_,qB_⟩
 obtain rfl:=oi_ H
 go_enter Try.func76,Try.ntmps76
 go_wp2_with (first|((with_reducible refine gd_ 3 ?_);refine by_ 3 (cs:= #[.int .i64 a,.int .i64 c]) (t:=43) ?_;intro j hg q g hb;have l:=gw_ hg;replace HB:=hs_ hb;clear hb hg)|((with_reducible refine gc_ 66 ?_);refine gl_ (some 6) Try.func66 #[.int .i64 d,.int .i64 1,.int .i64 12] ?_;(with_reducible refine(impl_in.calls d 1 12 true _ i.out).mono ?_);rintro e w' ⟨rfl,⟨nd,rfl⟩⟩;refine⟨_,rfl,?_⟩;obtain⟨G,I,J,L⟩:=bc2_ g)|(go_at_call 66;(with_reducible refine(impl_in.calls a 0 (wrap64 (d - 1)) true _ m.out).mono ?_);rintro e w' ⟨rfl,⟨nd,rfl⟩⟩)|(go_at_call 66;(with_reducible refine(impl_in.calls c 0 (wrap64 (d - 1)) false _ n.out).mono ?_);rintro e w' ⟨rfl,⟨nd,rfl⟩⟩))
 go_ret
 exact⟨qr_,qB_⟩
def impl_ahead.f (a0_0:Int) (a0_1:Int) (a1_0:Int) (a1_1:Int):Option (Bool):=if a0_0<a1_0 then (some true) else (if a0_0=a1_0 then (some (decide (a0_1<a1_1))) else (some false))
theorem impl_ahead.calls (a:Int) (d:Int) (c:Int) (g:Int) (r:Bool) (w:World) (h:impl_ahead.f a d c g=some r):
  Calls Try.prog 90 #[.agg #[.int .i64 a,.int .i64 d],.agg #[.int .i64 c,.int .i64 g]] w fun e w' =>e= .returned (.bool r)∧Below w.heap.size w w' :=by
 have hu43:=Try.underlying43
 have HB:=am_ (Below.refl w.heap.size w)
 rw[impl_ahead.f]at h;have H:=h;clear h
 refine ic_ H ?_ ?_<;>clear H<;>intro p H
 ·obtain rfl:=oi_ H
  go_enter Try.func90,Try.ntmps90
  go_wp2_with (first|((with_reducible refine gd_ 2 ?_);refine by_ 2 (cs:= #[.int .i64 a,.int .i64 d]) (t:=43) ?_;intro q hg C i hb;have s:=gw_ hg;replace HB:=hs_ hb;clear hb hg)|((with_reducible refine gd_ 3 ?_);refine by_ 3 (cs:= #[.int .i64 c,.int .i64 g]) (t:=43) ?_;intro u hg D j hb;have v:=gw_ hg;obtain⟨l,x⟩:=qn_ i hg;replace i:=qbl_ i hb;replace HB:=hs_ hb;clear hb hg;obtain⟨E,F⟩:=nn_ l;obtain⟨G,I,J,L⟩:=bc2_ i;obtain⟨M,N,O,R⟩:=bc2_ j))
  go_ret
  exact⟨qr_,qB_⟩
 refine jc_ H ?_ ?_<;>clear H<;>intro m H
 ·have n:(a==c)=true:=beq_iff_eq.mpr m
  have o:(a != c)=false:=bne_eq_false_iff_eq.mpr m
  clear m
  obtain rfl:=oi_ H
  go_enter Try.func90,Try.ntmps90
  go_wp2_with (first|((with_reducible refine gd_ 2 ?_);refine by_ 2 (cs:= #[.int .i64 a,.int .i64 d]) (t:=43) ?_;intro q hg y i hb;have s:=gw_ hg;replace HB:=hs_ hb;clear hb hg)|((with_reducible refine gd_ 3 ?_);refine by_ 3 (cs:= #[.int .i64 c,.int .i64 g]) (t:=43) ?_;intro u hg z j hb;have v:=gw_ hg;obtain⟨l,x⟩:=qn_ i hg;replace i:=qbl_ i hb;replace HB:=hs_ hb;clear hb hg;obtain⟨T,U⟩:=nn_ l;obtain⟨V,X,Y,Z⟩:=bc2_ i;obtain⟨a0,a1,a2,a3⟩:=bc2_ j))
  go_ret
  exact⟨qr_,qB_⟩
 have n:(a==c)=false:=beq_eq_false_iff_ne.mpr m
 have o:(a != c)=true:=bne_iff_ne.mpr m
 obtain rfl:=oi_ H
 go_enter Try.func90,Try.ntmps90
 go_wp2_with (first|((with_reducible refine gd_ 2 ?_);refine by_ 2 (cs:= #[.int .i64 a,.int .i64 d]) (t:=43) ?_;intro q hg A i hb;have s:=gw_ hg;replace HB:=hs_ hb;clear hb hg)|((with_reducible refine gd_ 3 ?_);refine by_ 3 (cs:= #[.int .i64 c,.int .i64 g]) (t:=43) ?_;intro u hg B j hb;have v:=gw_ hg;obtain⟨l,x⟩:=qn_ i hg;replace i:=qbl_ i hb;replace HB:=hs_ hb;clear hb hg;obtain⟨a4,a5⟩:=nn_ l;obtain⟨a6,a7,a8,a9⟩:=bc2_ i;obtain⟨b0,b1,b2,b3⟩:=bc2_ j))
 go_ret
 exact⟨qr_,qB_⟩
end Go.Proofs.Ytbkklafkoegdpaa.QFnTakes

import Derived.Test.YtbkklafkoegdpaaQFnTakesx10
namespace Go.Proofs.Ytbkklafkoegdpaa.QFnTakes
open Go.RowKit Go.Proofs.YtbkklafkoegdpaaW.PrintWords Go.Proofs.YtbkklafkoegdpaaW.PrintLast Go.Proofs.YtbkklafkoegdpaaW.PrintMore
set_option maxHeartbeats 8000000
set_option maxRecDepth 100000
set_option linter.unusedVariables false
set_option linter.unusedSimpArgs false
def spec_HasEdge.f (k:Nat) (a0_0:Int) (l0_1:List (S43)) (a1_0:Int) (a1_1:Int):Option (Bool):=(spec_l05Has.f k l0_1 a1_0 a1_1).bind fun t378=>(some t378)
theorem spec_HasEdge.calls (k:Nat) (j:Int) (g:Option Addr) (i:Nat) (a:List (S43)) (c:Int) (d:Int) (r:Bool) (w:World) (hr0_1:Kd.C k43 w g a.length a) (hc0_1:a.length≤i) (h:spec_HasEdge.f k j a c d=some r):
  Calls Try.prog 46 #[.agg #[.int .i64 j,.slice g a.length i],.agg #[.int .i64 c,.int .i64 d]] w fun e w' =>e= .returned (.bool r)∧Below w.heap.size w w' :=by
 have hu69:=Try.underlying69;have hu43:=Try.underlying43
 have l:=am_ hr0_1
 have m:=am_ hc0_1
 clear hr0_1 hc0_1
 have HB:=am_ (Below.refl w.heap.size w)
 rw[spec_HasEdge.f]at h;have H:=h;clear h
 obtain⟨p,q,H⟩:=bs_ H
 obtain rfl:=oi_ H
 go_enter Try.func46,Try.ntmps46
 go_wp2_with (first|((with_reducible refine gd_ 2 ?_);refine by_ 2 (cs:= #[.int .i64 j,.slice g a.length i]) (t:=69) ?_;intro u hg v n hb;have x:=gw_ hg;replace HB:=hs_ hb;clear hb hg)|((with_reducible refine gd_ 3 ?_);refine by_ 3 (cs:= #[.int .i64 c,.int .i64 d]) (t:=43) ?_;intro y hg z o hb;have A:=gw_ hg;obtain⟨s,B⟩:=qn_ n hg;replace n:=qbl_ n hb;replace HB:=hs_ hb;clear hb hg;obtain⟨D,E⟩:=nn_ s;obtain⟨F,G,I,J⟩:=bc2_ n;obtain⟨L,M,N,O⟩:=bc2_ o)|((with_reducible refine gc_ 101 ?_);refine gl_ (some 8) Try.func101 #[.slice g a.length i,.agg #[.int .i64 c,.int .i64 d]] ?_;(with_reducible refine(spec_l05Has.calls k _ _ a c d p _ ?_ ?_ q.out).mono ?_);exact qC_ l HB;exact m.out;rintro e R ⟨rfl,hb⟩;refine⟨_,rfl,?_⟩;replace n:=qbl_ n hb;replace o:=qbl_ o hb;replace HB:=hs_ hb;clear hb))
 go_ret
 exact⟨qr_,qB_⟩
end Go.Proofs.Ytbkklafkoegdpaa.QFnTakes

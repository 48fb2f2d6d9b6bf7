import Derived.Test.YtbkklafkoegdpaaQFnTakesx1
namespace Go.Proofs.Ytbkklafkoegdpaa.QFnTakes
open Go.RowKit Go.Proofs.YtbkklafkoegdpaaW.PrintWords Go.Proofs.YtbkklafkoegdpaaW.PrintLast Go.Proofs.YtbkklafkoegdpaaW.PrintMore
set_option maxHeartbeats 8000000
set_option maxRecDepth 100000
set_option linter.unusedVariables false
set_option linter.unusedSimpArgs false
attribute [local go_sem high] eqA43
def impl_hasEdge.l0:Nat→List (S43)→Int→Int→Int→Int→Option (Bool)
  |0,_,_,_,_,_=>none
  |k + 1,x7,x8,x9,x447000,x447001=>if x9<x8 then (if 0≤x9 then (if x9<(x7.length:Int) then (if (((rd_T43 x7 x9).f0)==x447000&&(((rd_T43 x7 x9).f1)==x447001))=true then (some true) else (impl_hasEdge.l0 k x7 x8 (wrap64 (x9 + 1)) x447000 x447001)) else (none)) else (none)) else (some false)
def impl_hasEdge.f (k:Nat) (l0:List (S43)) (a1_0:Int) (a1_1:Int):Option (Bool):=impl_hasEdge.l0 k l0 (l0.length:Int) 0 a1_0 a1_1
theorem impl_hasEdge.calls (k:Nat) (y:Option Addr) (z:Nat) (l0:List (S43)) (c:Int) (d:Int) (r:Bool) (w:World) (hr0:Kd.C k43 w y l0.length l0) (hc0:l0.length≤z) (h:impl_hasEdge.f k l0 c d=some r):
  Calls Try.prog 129 #[.slice y l0.length z,.agg #[.int .i64 c,.int .i64 d]] w fun e w' =>e= .returned (.bool r)∧Below w.heap.size w w' :=by
 have hu43:=Try.underlying43
 have A:=am_ hr0
 have O:=am_ hc0
 clear hr0 hc0
 have HB:=am_ (Below.refl w.heap.size w)
 rw[impl_hasEdge.f]at h;have H:=h;clear h;have H' :=am_ H;clear H
 go_enter Try.func129,Try.ntmps129
 go_wp2_with (first|((with_reducible refine gd_ 3 ?_);refine by_ 3 (cs:= #[.int .i64 c,.int .i64 d]) (t:=43) ?_;intro G hg R g hb;have T:=gw_ hg;replace HB:=hs_ hb;clear hb hg))
 go_loopg [9] k (fun kq v9 w' =>∃ (a:Int),v9= .int .i64 a∧Aside0 (impl_hasEdge.l0 kq l0 (l0.length:Int) a c d=some r)∧Aside0 (kq≤k)∧Aside0 (w'.heap[G]? =some (.cells #[.int .i64 c,.int .i64 d] 43 (0,0)))∧Aside0 (Below w.heap.size w w'))
 case atStart=>exact⟨(0),qe_,H',⟨Nat.le_refl _⟩,⟨qk_ g⟩,⟨qB_⟩⟩
 case round=>
  clear H'
  (try clear U)
  obtain⟨a,rfl,HA,HK1,g,HB⟩:=hrel
  cases gk with
  |zero=>exact absurd HA.out (by simp [impl_hasEdge.l0])
  |succ I=>
   have H:=HA.out;clear HA
   simp only[impl_hasEdge.l0]at H
   refine ib_ H ?_ ?_<;>clear H<;>intro B H
   ·obtain rfl:=oi_ H
    go_wp2
    go_ret
    exact⟨qr_,qB_⟩
   refine ig_ H ?_;clear H;intro D H
   refine ig_ H ?_;clear H;intro E H
   refine jc_ H ?_ ?_<;>clear H<;>intro m H
   ·have o:(((rd_T43 l0 a).f0)==c&&(((rd_T43 l0 a).f1)==d))=true:=m
    (have p:decide (((rd_T43 l0 a).f0)=c&&(((rd_T43 l0 a).f1)==d))=true:=by simpa using m)
    (have q:(((rd_T43 l0 a).f0)==c&&(((rd_T43 l0 a).f1)==d))=true:=by simpa using m)
    clear m
    obtain rfl:=oi_ H
    have i:=dt_ a
    have j:=du_ a l0.length
    obtain⟨n,l,s,u⟩:=at_T43 A.out a (ot_ i) (ot_ j)
    cases l
    replace s:=qx_ HB s
    replace u:=qx_ HB u
    go_wp2_with (first|((with_reducible refine gd_ 6 ?_);refine by_ 6 (cs:= #[.int .i64 0,.int .i64 0]) (t:=43) ?_;intro J hg X v hb;have L:=gw_ hg;obtain⟨M,x⟩:=qn_ g hg;replace g:=qbl_ g hb;replace HB:=hs_ hb;clear hb hg;obtain⟨Y,Z⟩:=nn_ x;obtain⟨a0,a1,a2,a3⟩:=bc2_ v;obtain⟨a4,a5,a6,a7⟩:=bc2_ g))
    go_ret
    exact⟨qr_,qB_⟩
   have o:(((rd_T43 l0 a).f0)==c&&(((rd_T43 l0 a).f1)==d))=false:=by simpa using m
   (have p:decide (((rd_T43 l0 a).f0)=c&&(((rd_T43 l0 a).f1)==d))=false:=by simpa using m)
   (have q:(((rd_T43 l0 a).f0)==c&&(((rd_T43 l0 a).f1)==d))=false:=by simpa using m)
   (have F:¬(((rd_T43 l0 a).f0)=c&&(((rd_T43 l0 a).f1)==d)):=by simpa using m)
   clear m;have H' :=am_ H;clear H
   have i:=dt_ a
   have j:=du_ a l0.length
   obtain⟨n,l,s,u⟩:=at_T43 A.out a (ot_ i) (ot_ j)
   cases l
   replace s:=qx_ HB s
   replace u:=qx_ HB u
   go_wp2_with (first|((with_reducible refine gd_ 6 ?_);refine by_ 6 (cs:= #[.int .i64 0,.int .i64 0]) (t:=43) ?_;intro J hg N v hb;have L:=gw_ hg;obtain⟨M,x⟩:=qn_ g hg;replace g:=qbl_ g hb;replace HB:=hs_ hb;clear hb hg;obtain⟨a8,a9⟩:=nn_ x;obtain⟨b0,b1,b2,b3⟩:=bc2_ v;obtain⟨b4,b5,b6,b7⟩:=bc2_ g))
   go_roundg I
   case measure=>have:=HK1.out;omega
   case rel=>exact⟨(wrap64 (a + 1)),qe_,H',⟨by have:=HK1.out;omega⟩,⟨qf_ g⟩,⟨qB_⟩⟩
def impl_HasEdge.f (k:Nat) (a0_0:Int) (l0_1:List (S43)) (a1_0:Int) (a1_1:Int):Option (Bool):=(impl_hasEdge.f k l0_1 a1_0 a1_1).bind fun t451=>(some t451)
theorem impl_HasEdge.calls (k:Nat) (j:Int) (g:Option Addr) (i:Nat) (a:List (S43)) (c:Int) (d:Int) (r:Bool) (w:World) (hr0_1:Kd.C k43 w g a.length a) (hc0_1:a.length≤i) (h:impl_HasEdge.f k j a c d=some r):
  Calls Try.prog 94 #[.agg #[.int .i64 j,.slice g a.length i],.agg #[.int .i64 c,.int .i64 d]] w fun e w' =>e= .returned (.bool r)∧Below w.heap.size w w' :=by
 have hu69:=Try.underlying69;have hu43:=Try.underlying43
 have l:=am_ hr0_1
 have m:=am_ hc0_1
 clear hr0_1 hc0_1
 have HB:=am_ (Below.refl w.heap.size w)
 rw[impl_HasEdge.f]at h;have H:=h;clear h
 obtain⟨p,q,H⟩:=bs_ H
 obtain rfl:=oi_ H
 go_enter Try.func94,Try.ntmps94
 go_wp2_with (first|((with_reducible refine gd_ 2 ?_);refine by_ 2 (cs:= #[.int .i64 j,.slice g a.length i]) (t:=69) ?_;intro u hg v n hb;have x:=gw_ hg;replace HB:=hs_ hb;clear hb hg)|((with_reducible refine gd_ 3 ?_);refine by_ 3 (cs:= #[.int .i64 c,.int .i64 d]) (t:=43) ?_;intro y hg z o hb;have A:=gw_ hg;obtain⟨s,B⟩:=qn_ n hg;replace n:=qbl_ n hb;replace HB:=hs_ hb;clear hb hg;obtain⟨D,E⟩:=nn_ s;obtain⟨F,G,I,J⟩:=bc2_ n;obtain⟨L,M,N,O⟩:=bc2_ o)|((with_reducible refine gc_ 129 ?_);refine gl_ (some 8) Try.func129 #[.slice g a.length i,.agg #[.int .i64 c,.int .i64 d]] ?_;(with_reducible refine(impl_hasEdge.calls k _ _ a c d p _ ?_ ?_ q.out).mono ?_);exact qC_ l HB;exact m.out;rintro e R ⟨rfl,hb⟩;refine⟨_,rfl,?_⟩;replace n:=qbl_ n hb;replace o:=qbl_ o hb;replace HB:=hs_ hb;clear hb))
 go_ret
 exact⟨qr_,qB_⟩
end Go.Proofs.Ytbkklafkoegdpaa.QFnTakes

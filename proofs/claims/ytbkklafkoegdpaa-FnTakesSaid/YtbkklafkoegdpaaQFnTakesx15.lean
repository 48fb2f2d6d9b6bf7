import Derived.Test.YtbkklafkoegdpaaQFnTakesx14
namespace Go.Proofs.Ytbkklafkoegdpaa.QFnTakes
open Go.RowKit Go.Proofs.YtbkklafkoegdpaaW.PrintWords Go.Proofs.YtbkklafkoegdpaaW.PrintLast Go.Proofs.YtbkklafkoegdpaaW.PrintMore
set_option maxHeartbeats 8000000
set_option maxRecDepth 100000
set_option linter.unusedVariables false
set_option linter.unusedSimpArgs false
def spec_TreeOf.l0:Nat→Int→Int→Int→List (List Int)→Option (Int)
  |0,_,_,_,_=>none
  |k + 1,x1,x5,x351000,x351001=>if x5<(x351001.length:Int) then (if 0≤x5 then ((spec_l05In.f k (rd_L4 x351001 x5) x1).bind fun t353=>(if t353=true then (some x5) else (spec_TreeOf.l0 k x1 (wrap64 (x5 + 1)) x351000 x351001))) else (none)) else (some (-1))
def spec_TreeOf.f (k:Nat) (a0_0:Int) (l0_1:List (List Int)) (a1:Int):Option (Int):=(spec_ForestOk.f k a0_0 l0_1).bind fun t351=>(if t351=true then (spec_TreeOf.l0 k a1 0 a0_0 l0_1) else (some (-1)))
theorem spec_TreeOf.calls (k:Nat) (g:Int) (i:Option Addr) (j:Nat) (a:List (List Int)) (v:Int) (r:Int) (w:World) (hr0_1:Kd.C (Kd.slice 3 (Kd.int .i64)) w i a.length a) (hc0_1:a.length≤j) (h:spec_TreeOf.f k g a v=some r):
  Calls Try.prog 60 #[.agg #[.int .i64 g,.slice i a.length j],.int .i64 v] w fun e w' =>e= .returned (.int .i64 r)∧Below w.heap.size w w' :=by
 have hu39:=Try.underlying39
 have n:=am_ hr0_1
 have p:=am_ hc0_1
 clear hr0_1 hc0_1
 have HB:=am_ (Below.refl w.heap.size w)
 rw[spec_TreeOf.f]at h;have H:=h;clear h
 obtain⟨R,B,H⟩:=bs_ H
 refine id_ H ?_ ?_<;>clear H<;>rintro rfl H
 ·obtain rfl:=oi_ H
  go_enter Try.func60,Try.ntmps60
  go_wp2_with (first|((with_reducible refine gd_ 2 ?_);refine by_ 2 (cs:= #[.int .i64 g,.slice i a.length j]) (t:=39) ?_;intro D hg G o hb;have I:=gw_ hg;replace HB:=hs_ hb;clear hb hg;obtain⟨T,U,V,X⟩:=bc2_ o)|((with_reducible refine gc_ 51 ?_);refine gl_ (some 7) Try.func51 #[.agg #[.int .i64 g,.slice i a.length j]] ?_;(with_reducible refine(spec_ForestOk.calls k g _ _ a false _ ?_ ?_ B.out).mono ?_);exact qC_ n HB;exact p.out;rintro e J ⟨rfl,hb⟩;refine⟨_,rfl,?_⟩;replace o:=qbl_ o hb;replace HB:=hs_ hb;clear hb))
  go_ret
  exact⟨qr_,qB_⟩
 have H' :=am_ H;clear H
 go_enter Try.func60,Try.ntmps60
 go_wp2_with (first|((with_reducible refine gd_ 2 ?_);refine by_ 2 (cs:= #[.int .i64 g,.slice i a.length j]) (t:=39) ?_;intro D hg Y o hb;have I:=gw_ hg;replace HB:=hs_ hb;clear hb hg;obtain⟨L,M,N,O⟩:=bc2_ o)|((with_reducible refine gc_ 51 ?_);refine gl_ (some 7) Try.func51 #[.agg #[.int .i64 g,.slice i a.length j]] ?_;(with_reducible refine(spec_ForestOk.calls k g _ _ a true _ ?_ ?_ B.out).mono ?_);exact qC_ n HB;exact p.out;rintro e Z ⟨rfl,hb⟩;refine⟨_,rfl,?_⟩;replace o:=qbl_ o hb;replace HB:=hs_ hb;clear hb))
 go_loopg [5] k (fun kq v5 w' =>∃ (c:Int),v5= .int .i64 c∧Aside0 (spec_TreeOf.l0 kq v c g a=some r)∧Aside0 (kq≤k)∧Aside0 (w'.heap[D]? =some (.cells #[.int .i64 g,(.slice i a.length j)] 39 (0,0)))∧Aside0 (Below w.heap.size w w'))
 case atStart=>exact⟨(0),qe_,H',⟨Nat.le_refl _⟩,⟨qk_ o⟩,⟨qB_⟩⟩
 case round=>
  clear H' L M N O
  obtain⟨c,rfl,HA,HK1,o,HB⟩:=hrel
  cases gk with
  |zero=>exact absurd HA.out (by simp [spec_TreeOf.l0])
  |succ A=>
   have H:=HA.out;clear HA
   simp only[spec_TreeOf.l0]at H
   refine ib_ H ?_ ?_<;>clear H<;>intro E H
   ·obtain rfl:=oi_ H
    obtain⟨a4,a5,a6,a7⟩:=bc2_ o
    go_wp2
    go_ret
    exact⟨qr_,qB_⟩
   refine ig_ H ?_;clear H;intro F H
   obtain⟨a8,y,H⟩:=bs_ H
   refine ie_ H ?_ ?_<;>clear H<;>rintro rfl H
   ·obtain rfl:=oi_ H
    obtain⟨a9,b0,b1,b2⟩:=bc2_ o
    have q:=dt_ c
    have s:=du_ c a.length
    obtain⟨x,A352_0,c352_0,u,z,d,hi352_0⟩:=at_L4 n.out c (ot_ q) (ot_ s)
    cases u
    replace z:=qx_ HB z
    have l:=am_ hi352_0
    have m:=am_ d
    clear hi352_0 d
    go_wp2_with (first|((with_reducible refine gc_ 105 ?_);refine gl_ (some 22) Try.func105 #[.slice A352_0 (rd_L4 a c).length c352_0,.int .i64 v] ?_;(with_reducible refine(spec_l05In.calls A _ _ (rd_L4 a c) v true _ ?_ ?_ y.out).mono ?_);exact qC_ l HB;exact m.out;rintro e w' ⟨rfl,⟨nd,rfl⟩⟩;refine⟨_,rfl,?_⟩))
    go_ret
    exact⟨qr_,qB_⟩
   have H' :=am_ H;clear H
   obtain⟨b3,b4,b5,b6⟩:=bc2_ o
   have q:=dt_ c
   have s:=du_ c a.length
   obtain⟨x,A352_0,c352_0,u,z,d,hi352_0⟩:=at_L4 n.out c (ot_ q) (ot_ s)
   cases u
   replace z:=qx_ HB z
   have l:=am_ hi352_0
   have m:=am_ d
   clear hi352_0 d
   go_wp2_with (first|((with_reducible refine gc_ 105 ?_);refine gl_ (some 22) Try.func105 #[.slice A352_0 (rd_L4 a c).length c352_0,.int .i64 v] ?_;(with_reducible refine(spec_l05In.calls A _ _ (rd_L4 a c) v false _ ?_ ?_ y.out).mono ?_);exact qC_ l HB;exact m.out;rintro e w' ⟨rfl,⟨nd,rfl⟩⟩;refine⟨_,rfl,?_⟩))
   go_roundg A
   case measure=>have:=HK1.out;omega
   case rel=>exact⟨(wrap64 (c + 1)),qe_,H',⟨by have:=HK1.out;omega⟩,⟨qk_ o⟩,⟨qB_⟩⟩
end Go.Proofs.Ytbkklafkoegdpaa.QFnTakes

import Derived.Test.YtbkklafkoegdpaaQFnTakesx12
namespace Go.Proofs.Ytbkklafkoegdpaa.QFnTakes
open Go.RowKit Go.Proofs.YtbkklafkoegdpaaW.PrintWords Go.Proofs.YtbkklafkoegdpaaW.PrintLast Go.Proofs.YtbkklafkoegdpaaW.PrintMore
set_option maxHeartbeats 8000000
set_option maxRecDepth 100000
set_option linter.unusedVariables false
set_option linter.unusedSimpArgs false
def spec_TourOk.l0:Nat→List Int→Int→Option (Bool)
  |0,_,_=>none
  |k + 1,x0,x3=>if x3<(x0.length:Int) then (if 0≤x3 then ((spec_l01In.f (rd x0 x3) 0 11).bind fun t330=>(if t330=true then (spec_TourOk.l0 k x0 (wrap64 (x3 + 1))) else (some false))) else (none)) else ((spec_l06Open.f k x0).bind fun t331=>(some t331))
def spec_TourOk.f (k:Nat) (l0:List Int):Option (Bool):=(spec_l01In.f (l0.length:Int) 1 23).bind fun t328=>(if t328=true then (spec_TourOk.l0 k l0 0) else (some false))
theorem spec_TourOk.calls (k:Nat) (l:Option Addr) (m:Nat) (l0:List Int) (r:Bool) (w:World) (hr0:Kd.C (Kd.int .i64) w l l0.length l0) (hc0:l0.length≤m) (h:spec_TourOk.f k l0=some r):
  Calls Try.prog 104 #[.slice l l0.length m] w fun e w' =>e= .returned (.bool r)∧Below w.heap.size w w' :=by
 have n:=am_ hr0
 have u:=am_ hc0
 clear hr0 hc0
 have HB:=am_ (Below.refl w.heap.size w)
 rw[spec_TourOk.f]at h;have H:=h;clear h
 obtain⟨y,o,H⟩:=bs_ H
 refine id_ H ?_ ?_<;>clear H<;>rintro rfl H
 ·obtain rfl:=oi_ H
  go_enter Try.func104,Try.ntmps104
  go_wp2_with (first|((with_reducible refine gc_ 57 ?_);refine gl_ (some 6) Try.func57 #[.int .i64 (l0.length:Int),.int .i64 1,.int .i64 23] ?_;(with_reducible refine(spec_l01In.calls (l0.length:Int) 1 23 false _ o.out).mono ?_);rintro e w' ⟨rfl,⟨nd,rfl⟩⟩;refine⟨_,rfl,?_⟩))
  go_ret
  exact⟨qr_,qB_⟩
 have H' :=am_ H;clear H
 go_enter Try.func104,Try.ntmps104
 go_wp2_with (first|((with_reducible refine gc_ 57 ?_);refine gl_ (some 6) Try.func57 #[.int .i64 (l0.length:Int),.int .i64 1,.int .i64 23] ?_;(with_reducible refine(spec_l01In.calls (l0.length:Int) 1 23 true _ o.out).mono ?_);rintro e w' ⟨rfl,⟨nd,rfl⟩⟩;refine⟨_,rfl,?_⟩))
 go_loopg [3] k (fun kq v3 w' =>∃ (a:Int),v3= .int .i64 a∧Aside0 (spec_TourOk.l0 kq l0 a=some r)∧Aside0 (kq≤k)∧Aside0 (Below w.heap.size w w'))
 case atStart=>exact⟨(0),qe_,H',⟨Nat.le_refl _⟩,⟨qB_⟩⟩
 case round=>
  clear H'
  (try clear z)
  obtain⟨a,rfl,HA,HK1,HB⟩:=hrel
  cases gk with
  |zero=>exact absurd HA.out (by simp [spec_TourOk.l0])
  |succ p=>
   have H:=HA.out;clear HA
   simp only[spec_TourOk.l0]at H
   refine ib_ H ?_ ?_<;>clear H<;>intro q H
   ·obtain⟨v,x,H⟩:=bs_ H
    obtain rfl:=oi_ H
    go_wp2_with (first|((with_reducible refine gc_ 134 ?_);refine gl_ (some 21) Try.func134 #[.slice l l0.length m] ?_;(with_reducible refine(spec_l06Open.calls p _ _ l0 v _ ?_ ?_ x.out).mono ?_);exact qC_ n HB;exact u.out;rintro e D ⟨rfl,hb⟩;refine⟨_,rfl,?_⟩;replace HB:=hs_ hb;clear hb))
    go_ret
    exact⟨qr_,qB_⟩
   refine ig_ H ?_;clear H;intro s H
   obtain⟨E,t,H⟩:=bs_ H
   refine ie_ H ?_ ?_<;>clear H<;>rintro rfl H
   ·have H' :=am_ H;clear H
    have c:=dt_ a
    have d:=du_ a l0.length
    obtain⟨i,g,j⟩:=Kd.at_int n.out a (ot_ c) (ot_ d)
    cases g
    replace j:=qx_ HB j
    go_wp2_with (first|((with_reducible refine gc_ 57 ?_);refine gl_ (some 18) Try.func57 #[.int .i64 (rd l0 a),.int .i64 0,.int .i64 11] ?_;(with_reducible refine(spec_l01In.calls (rd l0 a) 0 11 true _ t.out).mono ?_);rintro e w' ⟨rfl,⟨nd,rfl⟩⟩;refine⟨_,rfl,?_⟩))
    go_roundg p
    case measure=>have:=HK1.out;omega
    case rel=>exact⟨(wrap64 (a + 1)),qe_,H',⟨by have:=HK1.out;omega⟩,⟨qB_⟩⟩
   obtain rfl:=oi_ H
   have c:=dt_ a
   have d:=du_ a l0.length
   obtain⟨i,g,j⟩:=Kd.at_int n.out a (ot_ c) (ot_ d)
   cases g
   replace j:=qx_ HB j
   go_wp2_with (first|((with_reducible refine gc_ 57 ?_);refine gl_ (some 18) Try.func57 #[.int .i64 (rd l0 a),.int .i64 0,.int .i64 11] ?_;(with_reducible refine(spec_l01In.calls (rd l0 a) 0 11 false _ t.out).mono ?_);rintro e w' ⟨rfl,⟨nd,rfl⟩⟩;refine⟨_,rfl,?_⟩))
   go_ret
   exact⟨qr_,qB_⟩
end Go.Proofs.Ytbkklafkoegdpaa.QFnTakes

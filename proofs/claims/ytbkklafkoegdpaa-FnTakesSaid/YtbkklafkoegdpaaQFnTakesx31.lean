import Derived.Test.YtbkklafkoegdpaaQFnTakesx1
import Derived.Test.YtbkklafkoegdpaaQFnTakesx2
namespace Go.Proofs.Ytbkklafkoegdpaa.QFnTakes
open Go.RowKit Go.Proofs.YtbkklafkoegdpaaW.PrintWords Go.Proofs.YtbkklafkoegdpaaW.PrintLast Go.Proofs.YtbkklafkoegdpaaW.PrintMore
set_option maxHeartbeats 8000000
set_option maxRecDepth 100000
set_option linter.unusedVariables false
set_option linter.unusedSimpArgs false
attribute [local go_sem high] eqA43 eqA72
mutual
def laws_sameWeb.j0:Nat→Bool→Int→List (S72)→Int→List (S72)→Option (Bool)
  |0,_,_,_,_,_=>none
  |k + 1,x19,x703000,x703001,x704000,x704001=>if x19=true then (some false) else (laws_sameWeb.l0 k 0 x703000 x703001 x704000 x704001)
def laws_sameWeb.l0:Nat→Int→Int→List (S72)→Int→List (S72)→Option (Bool)
  |0,_,_,_,_,_=>none
  |k + 1,x5,x703000,x703001,x704000,x704001=>if x5<(x703001.length:Int) then (if 0≤x5 then (if x5<(x704001.length:Int) then (if (!(((rd_T72 x703001 x5).f0)==((rd_T72 x704001 x5).f0)) || (!(((rd_T72 x703001 x5).f1)==((rd_T72 x704001 x5).f1)) || (!(((rd_T72 x703001 x5).f2)==((rd_T72 x704001 x5).f2)) || (!(((rd_T72 x703001 x5).f3)==((rd_T72 x704001 x5).f3))))))=true then (some false) else (laws_sameWeb.l0 k (wrap64 (x5 + 1)) x703000 x703001 x704000 x704001)) else (none)) else (none)) else (some true)
end
def laws_sameWeb.f (k:Nat) (a0_0:Int) (l0_1:List (S72)) (a1_0:Int) (l1_1:List (S72)):Option (Bool):=if a0_0=a1_0 then (laws_sameWeb.j0 k ((l0_1.length:Int) != (l1_1.length:Int)) a0_0 l0_1 a1_0 l1_1) else (laws_sameWeb.j0 k true a0_0 l0_1 a1_0 l1_1)
theorem laws_sameWeb.calls (k:Nat) (g:Int) (l:Option Addr) (m:Nat) (c:List (S72)) (i:Int) (n:Option Addr) (o:Nat) (d:List (S72)) (r:Bool) (w:World) (hr0_1:Kd.C k72 w l c.length c) (hc0_1:c.length≤m) (hr1_1:Kd.C k72 w n d.length d) (hc1_1:d.length≤o) (h:laws_sameWeb.f k g c i d=some r):
  Calls Try.prog 48 #[.agg #[.int .i64 g,.slice l c.length m],.agg #[.int .i64 i,.slice n d.length o]] w fun e w' =>e= .returned (.bool r)∧Below w.heap.size w w' :=by
 have hu29:=Try.underlying29;have hu72:=Try.underlying72
 have u:=am_ hr0_1
 have Z:=am_ hc0_1
 clear hr0_1 hc0_1
 have v:=am_ hr1_1
 have a0:=am_ hc1_1
 clear hr1_1 hc1_1
 have HB:=am_ (Below.refl w.heap.size w)
 rw[laws_sameWeb.f]at h;have H:=h;clear h
 have a1:=am_ H
 clear H
 go_enter Try.func48,Try.ntmps48
 go_upto_region 1 with (first|((with_reducible refine gd_ 2 ?_);((refine gate_guard (by rfl) ?_;dsimp only));refine by_ 2 (cs:= #[.int .i64 g,.slice l c.length m]) (t:=29) ?_;intro a2 hg c6 p hb;have c7:=gw_ hg;replace HB:=hs_ hb;clear hb hg)|((with_reducible refine gd_ 3 ?_);((refine gate_guard (by rfl) ?_;dsimp only));refine by_ 3 (cs:= #[.int .i64 i,.slice n d.length o]) (t:=29) ?_;intro a3 hg c8 x hb;have c9:=gw_ hg;obtain⟨M,d0⟩:=qn_ p hg;replace p:=qbl_ p hb;replace HB:=hs_ hb;clear hb hg))
 repeat(go_quiet (fail);go_upto_region 1 with (first|((with_reducible refine gd_ 2 ?_);(try(refine gate_guard (by rfl) ?_;dsimp only));refine by_ 2 (cs:= #[.int .i64 g,.slice l c.length m]) (t:=29) ?_;intro a2 hg c6 p hb;have c7:=gw_ hg;replace HB:=hs_ hb;clear hb hg)|((with_reducible refine gd_ 3 ?_);(try(refine gate_guard (by rfl) ?_;dsimp only));refine by_ 3 (cs:= #[.int .i64 i,.slice n d.length o]) (t:=29) ?_;intro a3 hg c8 x hb;have c9:=gw_ hg;obtain⟨M,d0⟩:=qn_ p hg;replace p:=qbl_ p hb;replace HB:=hs_ hb;clear hb hg)))
 go_cut [19] (fun v19 wc=>∃ (kq:Nat) (s:Bool),v19= .bool s∧Aside0 (laws_sameWeb.j0 kq s g c i d=some r)∧Aside0 (kq≤k)∧Aside0 (wc.heap[a2]? =some (.cells #[.int .i64 g,(.slice l c.length m)] 29 (0,0)))∧Aside0 (wc.heap[a3]? =some (.cells #[.int .i64 i,(.slice n d.length o)] 29 (0,0)))∧Aside0 (Below w.heap.size w wc))
 case first=>
  have H:=a1.out;clear a1
  refine jc_ H ?_ ?_<;>clear H<;>intro G H
  ·have j:(g==i)=true:=beq_iff_eq.mpr G
   have q:(g != i)=false:=bne_eq_false_iff_eq.mpr G
   clear G
   (first|rw[j]|rw[q]|(simp only[i64_w,i32_w];rw[j])|skip)
   have H' :=am_ H;clear H;obtain⟨d6,d7⟩:=nn_ M
   obtain⟨a8,a9,b0,b1⟩:=bc2_ p
   obtain⟨b2,b3,b4,b5⟩:=bc2_ x
   go_wp2
   repeat(go_quiet (fail);try go_wp2)
   go_meet
   case rel=>exact⟨_,(((c.length:Int) != (d.length:Int))),qe_,H',⟨qo_⟩,⟨qk_ p⟩,⟨qk_ x⟩,⟨qB_⟩⟩
  have j:(g==i)=false:=beq_eq_false_iff_ne.mpr G
  have q:(g != i)=true:=bne_iff_ne.mpr G
  (first|rw[j]|rw[q]|(simp only[i64_w,i32_w];rw[j])|skip)
  have H' :=am_ H;clear H;obtain⟨d8,d9⟩:=nn_ M
  obtain⟨b6,b7,b8,b9⟩:=bc2_ p
  obtain⟨c0,c1,c2,c3⟩:=bc2_ x
  go_wp2
  repeat(go_quiet (fail);try go_wp2)
  go_meet
  case rel=>exact⟨_,(true),qe_,H',⟨qo_⟩,⟨qk_ p⟩,⟨qk_ x⟩,⟨qB_⟩⟩
 case rest=>
  clear a1
  obtain⟨kq,s,rfl,HA,c5,p,x,HB⟩:=hcut
  cases kq with
  |zero=>exact absurd HA.out (by simp [laws_sameWeb.j0])
  |succ kj2=>
   have H:=HA.out;clear HA
   simp only[laws_sameWeb.j0]at H
   refine ie_ H ?_ ?_<;>clear H<;>rintro rfl H
   ·obtain rfl:=oi_ H
    go_wp2
    repeat(go_quiet (fail);try go_wp2)
    go_ret
    exact⟨qr_,qB_⟩
   have H' :=am_ H;clear H
   go_wp2
   repeat(go_quiet (fail);try go_wp2)
   go_loopg [5] kj2 (fun kq v5 w' =>∃ (a:Int),v5= .int .i64 a∧Aside0 (laws_sameWeb.l0 kq a g c i d=some r)∧Aside0 (kq≤kj2)∧Aside0 (w'.heap[a2]? =some (.cells #[.int .i64 g,(.slice l c.length m)] 29 (0,0)))∧Aside0 (w'.heap[a3]? =some (.cells #[.int .i64 i,(.slice n d.length o)] 29 (0,0)))∧Aside0 (Below w.heap.size w w'))
   case atStart=>exact⟨(0),qe_,H',⟨Nat.le_refl _⟩,⟨qk_ p⟩,⟨qk_ x⟩,⟨qB_⟩⟩
   case round=>
    clear H'
    obtain⟨a,rfl,HA,HK2,p,x,HB⟩:=hrel
    cases gk with
    |zero=>exact absurd HA.out (by simp [laws_sameWeb.l0])
    |succ d5=>
     have H:=HA.out;clear HA
     simp only[laws_sameWeb.l0]at H
     refine ib_ H ?_ ?_<;>clear H<;>intro a5 H
     ·obtain rfl:=oi_ H
      obtain⟨e0,e1⟩:=nn_ M
      obtain⟨e2,e3,e4,e5⟩:=bc2_ p
      go_wp2
      repeat(go_quiet (fail);try go_wp2)
      go_ret
      exact⟨qr_,qB_⟩
     refine ig_ H ?_;clear H;intro a6 H
     refine ig_ H ?_;clear H;intro a7 H
     refine jc_ H ?_ ?_<;>clear H<;>intro F H
     ·have I:(!(((rd_T72 c a).f0)==((rd_T72 d a).f0)) || (!(((rd_T72 c a).f1)==((rd_T72 d a).f1)) || (!(((rd_T72 c a).f2)==((rd_T72 d a).f2)) || (!(((rd_T72 c a).f3)==((rd_T72 d a).f3))))))=true:=F
      clear F
      obtain rfl:=oi_ H
      obtain⟨e6,e7⟩:=nn_ M
      obtain⟨e8,e9,f4,f5⟩:=bc2_ p
      have y:=dt_ a
      have z:=du_ a c.length
      obtain⟨J,A,N,O,R,T⟩:=at_T72 u.out a (ot_ y) (ot_ z)
      cases A
      replace N:=qx_ HB N
      replace O:=qx_ HB O
      replace R:=qx_ HB R
      replace T:=qx_ HB T
      obtain⟨f6,f7,f8,f9⟩:=bc2_ x
      have B:=dt_ a
      have D:=du_ a d.length
      obtain⟨L,E,U,V,X,Y⟩:=at_T72 v.out a (ot_ B) (ot_ D)
      cases E
      replace U:=qx_ HB U
      replace V:=qx_ HB V
      replace X:=qx_ HB X
      replace Y:=qx_ HB Y
      go_wp2
      repeat(go_quiet (fail);try go_wp2)
      go_ret
      exact⟨qr_,qB_⟩
     have I:(!(((rd_T72 c a).f0)==((rd_T72 d a).f0)) || (!(((rd_T72 c a).f1)==((rd_T72 d a).f1)) || (!(((rd_T72 c a).f2)==((rd_T72 d a).f2)) || (!(((rd_T72 c a).f3)==((rd_T72 d a).f3))))))=false:=by simpa using F
     clear F;have H' :=am_ H;clear H;obtain⟨g0,g1⟩:=nn_ M
     obtain⟨g2,g3,g4,g5⟩:=bc2_ p
     have y:=dt_ a
     have z:=du_ a c.length
     obtain⟨J,A,N,O,R,T⟩:=at_T72 u.out a (ot_ y) (ot_ z)
     cases A
     replace N:=qx_ HB N
     replace O:=qx_ HB O
     replace R:=qx_ HB R
     replace T:=qx_ HB T
     obtain⟨g6,g7,g8,g9⟩:=bc2_ x
     have B:=dt_ a
     have D:=du_ a d.length
     obtain⟨L,E,U,V,X,Y⟩:=at_T72 v.out a (ot_ B) (ot_ D)
     cases E
     replace U:=qx_ HB U
     replace V:=qx_ HB V
     replace X:=qx_ HB X
     replace Y:=qx_ HB Y
     go_wp2
     repeat(go_quiet (fail);try go_wp2)
     go_roundg d5
     case measure=>have:=c5.out;have:=HK2.out;omega
     case rel=>exact⟨(wrap64 (a + 1)),qe_,H',⟨by have:=c5.out;have:=HK2.out;omega⟩,⟨qk_ p⟩,⟨qk_ x⟩,⟨qB_⟩⟩
def laws_has.l0:Nat→List (S43)→Int→Int→Int→Option (Bool)
  |0,_,_,_,_=>none
  |k + 1,x0,x5,x707000,x707001=>if x5<(x0.length:Int) then (if 0≤x5 then (if (((rd_T43 x0 x5).f0)==x707000&&(((rd_T43 x0 x5).f1)==x707001))=true then (some true) else (laws_has.l0 k x0 (wrap64 (x5 + 1)) x707000 x707001)) else (none)) else (some false)
def laws_has.f (k:Nat) (l0:List (S43)) (a1_0:Int) (a1_1:Int):Option (Bool):=laws_has.l0 k l0 0 a1_0 a1_1
theorem laws_has.calls (k:Nat) (v:Option Addr) (x:Nat) (l0:List (S43)) (c:Int) (d:Int) (r:Bool) (w:World) (hr0:Kd.C k43 w v l0.length l0) (hc0:l0.length≤x) (h:laws_has.f k l0 c d=some r):
  Calls Try.prog 49 #[.slice v l0.length x,.agg #[.int .i64 c,.int .i64 d]] w fun e w' =>e= .returned (.bool r)∧Below w.heap.size w w' :=by
 have hu43:=Try.underlying43
 have y:=am_ hr0
 have I:=am_ hc0
 clear hr0 hc0
 have HB:=am_ (Below.refl w.heap.size w)
 rw[laws_has.f]at h;have H:=h;clear h;have H' :=am_ H;clear H
 go_enter Try.func49,Try.ntmps49
 go_wp2_with (first|((with_reducible refine gd_ 3 ?_);refine by_ 3 (cs:= #[.int .i64 c,.int .i64 d]) (t:=43) ?_;intro z hg E n hb;have F:=gw_ hg;replace HB:=hs_ hb;clear hb hg))
 repeat(go_quiet (fail);try go_wp2_with (first|((with_reducible refine gd_ 3 ?_);refine by_ 3 (cs:= #[.int .i64 c,.int .i64 d]) (t:=43) ?_;intro z hg E n hb;have F:=gw_ hg;replace HB:=hs_ hb;clear hb hg)))
 go_loopg [5] k (fun kq v5 w' =>∃ (a:Int),v5= .int .i64 a∧Aside0 (laws_has.l0 kq l0 a c d=some r)∧Aside0 (kq≤k)∧Aside0 (w'.heap[z]? =some (.cells #[.int .i64 c,.int .i64 d] 43 (0,0)))∧Aside0 (Below w.heap.size w w'))
 case atStart=>exact⟨(0),qe_,H',⟨Nat.le_refl _⟩,⟨qk_ n⟩,⟨qB_⟩⟩
 case round=>
  clear H'
  obtain⟨a,rfl,HA,HK1,n,HB⟩:=hrel
  cases gk with
  |zero=>exact absurd HA.out (by simp [laws_has.l0])
  |succ G=>
   have H:=HA.out;clear HA
   simp only[laws_has.l0]at H
   refine ib_ H ?_ ?_<;>clear H<;>intro A H
   ·obtain rfl:=oi_ H
    go_wp2
    repeat(go_quiet (fail);try go_wp2)
    go_ret
    exact⟨qr_,qB_⟩
   refine ig_ H ?_;clear H;intro B H
   refine jc_ H ?_ ?_<;>clear H<;>intro l H
   ·have o:(((rd_T43 l0 a).f0)==c&&(((rd_T43 l0 a).f1)==d))=true:=l
    (have p:decide (((rd_T43 l0 a).f0)=c&&(((rd_T43 l0 a).f1)==d))=true:=by simpa using l)
    (have q:(((rd_T43 l0 a).f0)==c&&(((rd_T43 l0 a).f1)==d))=true:=by simpa using l)
    clear l
    obtain rfl:=oi_ H
    have g:=dt_ a
    have i:=du_ a l0.length
    obtain⟨m,j,s,u⟩:=at_T43 y.out a (ot_ g) (ot_ i)
    cases j
    replace s:=qx_ HB s
    replace u:=qx_ HB u
    obtain⟨L,M,N,O⟩:=bc2_ n
    go_wp2
    repeat(go_quiet (fail);try go_wp2)
    go_ret
    exact⟨qr_,qB_⟩
   have o:(((rd_T43 l0 a).f0)==c&&(((rd_T43 l0 a).f1)==d))=false:=by simpa using l
   (have p:decide (((rd_T43 l0 a).f0)=c&&(((rd_T43 l0 a).f1)==d))=false:=by simpa using l)
   (have q:(((rd_T43 l0 a).f0)==c&&(((rd_T43 l0 a).f1)==d))=false:=by simpa using l)
   (have D:¬(((rd_T43 l0 a).f0)=c&&(((rd_T43 l0 a).f1)==d)):=by simpa using l)
   clear l;have H' :=am_ H;clear H
   have g:=dt_ a
   have i:=du_ a l0.length
   obtain⟨m,j,s,u⟩:=at_T43 y.out a (ot_ g) (ot_ i)
   cases j
   replace s:=qx_ HB s
   replace u:=qx_ HB u
   obtain⟨R,T,U,V⟩:=bc2_ n
   go_wp2
   repeat(go_quiet (fail);try go_wp2)
   go_roundg G
   case measure=>have:=HK1.out;omega
   case rel=>exact⟨(wrap64 (a + 1)),qe_,H',⟨by have:=HK1.out;omega⟩,⟨qk_ n⟩,⟨qB_⟩⟩
end Go.Proofs.Ytbkklafkoegdpaa.QFnTakes

import Derived.Test.YtbkklafkoegdpaaQFnTakesx8
namespace Go.Proofs.Ytbkklafkoegdpaa.QFnTakes
open Go.RowKit Go.Proofs.YtbkklafkoegdpaaW.PrintWords Go.Proofs.YtbkklafkoegdpaaW.PrintLast Go.Proofs.YtbkklafkoegdpaaW.PrintMore
set_option maxHeartbeats 8000000
set_option maxRecDepth 100000
set_option linter.unusedVariables false
set_option linter.unusedSimpArgs false
def spec_l05Edges.l0:Nat→Int→List (S43)→Int→Option (Bool)
  |0,_,_,_=>none
  |k + 1,x0,x1,x5=>if x5<(x1.length:Int) then (if 0≤x5 then ((spec_EdgeOk.f x0 ((rd_T43 x1 x5).f0) ((rd_T43 x1 x5).f1)).bind fun t219=>(if t219=true then (if x5>0 then (if 0≤(wrap64 (x5 - 1)) then (if (wrap64 (x5 - 1))<(x1.length:Int) then ((spec_l05Less.f ((rd_T43 x1 (wrap64 (x5 - 1))).f0) ((rd_T43 x1 (wrap64 (x5 - 1))).f1) ((rd_T43 x1 x5).f0) ((rd_T43 x1 x5).f1)).bind fun t222=>(if t222=true then (spec_l05Edges.l0 k x0 x1 (wrap64 (x5 + 1))) else (some false))) else (none)) else (none)) else (spec_l05Edges.l0 k x0 x1 (wrap64 (x5 + 1)))) else (some false))) else (none)) else (some (decide ((x1.length:Int)≤66)))
def spec_l05Edges.f (k:Nat) (a0:Int) (l1:List (S43)):Option (Bool):=spec_l05Edges.l0 k a0 l1 0
def spec_l05Edges.T4:Bool × List (List Nat × List Nat):=(true,[([],[]),([],[]),([],[]),([1,2],[1,2]),([3],[3]),([0,4],[0,4]),([5],[5]),([6,5],[6]),([7],[7]),([8,7],[7,8]),([9,7,7],[7,9]),([10],[10]),([10],[10]),([12,10],[10,12]),([11,13,10],[10,11,13]),([14,10],[10,14]),([10],[10]),([10],[10]),([16,17,10],[10,16,17]),([18,10],[10,18]),([15,19,10,10],[10,15,19]),([20,10],[10,20]),([10,21,7],[7,10,21]),([7,22],[7,22])])
def spec_l05Edges.B4:List Nat:=[0,0,0,6,14,31,63,127,255,511,1023,2047,2047,6143,16383,32767,2047,2047,198655,460799,1048575,2097151,4194303,8388607]
theorem spec_l05Edges.tab4:rtab .any (opsOf Try.f107 4)=spec_l05Edges.T4:=by kernel_rfl
theorem spec_l05Edges.bits4:waitsOk spec_l05Edges.T4.2 spec_l05Edges.B4=true:=by kernel_rfl
theorem spec_l05Edges.calls (k:Nat) (u:Int) (Y:Option Addr) (V:Nat) (l1:List (S43)) (r:Bool) (w:World) (hr1:Kd.C k43 w Y l1.length l1) (hc1:l1.length≤V) (h:spec_l05Edges.f k u l1=some r):
  Calls Try.prog 107 #[.int .i64 u,.slice Y l1.length V] w fun e w' =>e= .returned (.bool r)∧Below w.heap.size w w' :=by
 have hu43:=Try.underlying43
 have I:=am_ hr1
 have b3:=am_ hc1
 clear hr1 hc1
 have HB:=am_ (Below.refl w.heap.size w)
 rw[spec_l05Edges.f]at h;have H:=h;clear h;have H' :=am_ H;clear H
 go_enter Try.func107,Try.ntmps107
 go_wp2
 go_loopg [5] k (fun kq v5 w' =>∃ (a:Int),v5= .int .i64 a∧Aside0 (spec_l05Edges.l0 kq u l1 a=some r)∧Aside0 (kq≤k)∧Aside0 (Below w.heap.size w w'))
 case atStart=>exact⟨(0),qe_,H',⟨Nat.le_refl _⟩,⟨qB_⟩⟩
 case round=>
  clear H'
  (try clear b4)
  obtain⟨a,rfl,HA,HK1,HB⟩:=hrel
  cases gk with
  |zero=>exact absurd HA.out (by simp [spec_l05Edges.l0])
  |succ Z=>
   have H:=HA.out;clear HA
   simp only[spec_l05Edges.l0]at H
   refine ib_ H ?_ ?_<;>clear H<;>intro a0 H
   ·obtain rfl:=oi_ H
    go_wp2
    go_ret
    exact⟨qr_,qB_⟩
   refine ig_ H ?_;clear H;intro a1 H
   obtain⟨b5,O,H⟩:=bs_ H
   refine id_ H ?_ ?_<;>clear H<;>rintro rfl H
   ·obtain rfl:=oi_ H
    try go_wp2
    replace HB:=hd_ HB
    have g:=dt_ a
    have i:=du_ a l1.length
    obtain⟨c,j,m,o⟩:=at_T43 I.out a (ot_ g) (ot_ i)
    have s:=o;have t:=m;cases j
    replace m:=qx_ HB m
    replace o:=qx_ HB o
    refine start_ (n:=24) (S:=fun w' =>w'.cell? (c.add ((a).toNat * 2))=some (.int .i64 ((rd_T43 l1 a).f0))∧w'.cell? ⟨(c.add ((a).toNat * 2)).block,(c.add ((a).toNat * 2)).off + 1,none⟩=some (.int .i64 ((rd_T43 l1 a).f1))) (ds:=[]) (bm 24 0) (by kernel_rfl) rfl (by kernel_rfl) ⟨((qx_ HB t).trans rfl),((qx_ HB s).trans rfl)⟩ (fun hHeld=> ?_);refine with_tabW spec_l05Edges.tab4 spec_l05Edges.bits4 (fun HT_ HW_=> ?_)
    generalize wr.drew=a3 at HB m o hHeld ⊢
    refine pz_ 0 12 24 1 ?_;refine pz_ 1 13 24 3 ?_;refine pz_ 2 14 24 7 ?_;refine pz_ 3 15 24 15 ?_;refine tz2_ 4 16 24 31 ?_
    refine o1_ 5 (some 17) 24 63 (fun K hK=> ?_)
    refine gs_ Try.func71 #[.int .i64 u,.agg #[.int .i64 ((rd_T43 l1 a).f0),.int .i64 ((rd_T43 l1 a).f1)]] ?_
    with_reducible refine(spec_EdgeOk.calls u ((rd_T43 l1 a).f0) ((rd_T43 l1 a).f1) false _ O.out).mono ?_
    rintro e a4 ⟨rfl,hb⟩
    refine⟨_,rfl,?_⟩
    replace HB:=hs_ hb;clear hb
    refine hK.out _ _ ⟨((qx_ HB t).trans rfl),((qx_ HB s).trans rfl)⟩ (fun hHeld=> ?_)
    clear hK K
    refine nm_ 17 ?_
    refine pz_ 6 18 24 127 ?_;refine pz_ 7 19 24 255 ?_
    refine pu_ 8 20 24 511 ?_
    refine pu_ 9 21 24 1023 ?_
    refine pu_ 10 22 24 2047 ?_
    refine pu_ 11 23 24 4095 ?_
    refine pu_ 12 24 24 8191 ?_
    refine pu_ 13 25 24 16383 ?_
    refine pu_ 14 26 24 32767 ?_
    refine pu_ 15 27 24 65535 ?_
    refine pu_ 16 28 24 131071 ?_
    refine pu_ 17 29 24 262143 ?_
    refine pu_ 18 30 24 524287 ?_
    refine pu_ 19 31 24 1048575 ?_
    refine pu_ 20 32 24 2097151 ?_
    refine pu_ 21 33 24 4194303 ?_
    refine pu_ 22 34 24 8388607 ?_
    refine pz_ 23 35 24 16777215 ?_
    refine done_ (done_of HT_.out (by kernel_rfl)) ?_
    try go_wp2
    go_ret
    exact⟨qr_,qB_⟩
   refine jb_ H ?_ ?_<;>clear H<;>intro U H
   ·have R:decide (0<a)=false:=decide_eq_false U
    clear U;have H' :=am_ H;clear H
    try go_wp2
    replace HB:=hd_ HB
    have g:=dt_ a
    have i:=du_ a l1.length
    obtain⟨c,j,m,o⟩:=at_T43 I.out a (ot_ g) (ot_ i)
    have s:=o;have t:=m;cases j
    replace m:=qx_ HB m
    replace o:=qx_ HB o
    refine start_ (n:=24) (S:=fun w' =>w'.cell? (c.add ((a).toNat * 2))=some (.int .i64 ((rd_T43 l1 a).f0))∧w'.cell? ⟨(c.add ((a).toNat * 2)).block,(c.add ((a).toNat * 2)).off + 1,none⟩=some (.int .i64 ((rd_T43 l1 a).f1))) (ds:=[]) (bm 24 0) (by kernel_rfl) rfl (by kernel_rfl) ⟨((qx_ HB t).trans rfl),((qx_ HB s).trans rfl)⟩ (fun hHeld=> ?_);refine with_tabW spec_l05Edges.tab4 spec_l05Edges.bits4 (fun HT_ HW_=> ?_)
    generalize wr.drew=a5 at HB m o hHeld ⊢
    refine pz_ 0 12 24 1 ?_;refine pz_ 1 13 24 3 ?_;refine pz_ 2 14 24 7 ?_;refine pz_ 3 15 24 15 ?_;refine tz2_ 4 16 24 31 ?_
    refine o1_ 5 (some 17) 24 63 (fun K hK=> ?_)
    refine gs_ Try.func71 #[.int .i64 u,.agg #[.int .i64 ((rd_T43 l1 a).f0),.int .i64 ((rd_T43 l1 a).f1)]] ?_
    with_reducible refine(spec_EdgeOk.calls u ((rd_T43 l1 a).f0) ((rd_T43 l1 a).f1) true _ O.out).mono ?_
    rintro e a6 ⟨rfl,hb⟩
    refine⟨_,rfl,?_⟩
    replace HB:=hs_ hb;clear hb
    refine hK.out _ _ ⟨((qx_ HB t).trans rfl),((qx_ HB s).trans rfl)⟩ (fun hHeld=> ?_)
    clear hK K
    refine nm_ 17 ?_
    refine pz_ 6 18 24 127 ?_;refine pz_ 7 19 24 255 ?_;refine pz_ 8 20 24 511 ?_;refine pz_ 9 21 24 1023 ?_;refine pz_ 10 22 24 2047 ?_
    refine pu_ 11 23 24 4095 ?_
    refine pu_ 12 24 24 8191 ?_
    refine pu_ 13 25 24 16383 ?_
    refine pu_ 14 26 24 32767 ?_
    refine pu_ 15 27 24 65535 ?_
    refine pu_ 16 28 24 131071 ?_
    refine pu_ 17 29 24 262143 ?_
    refine pu_ 18 30 24 524287 ?_
    refine pu_ 19 31 24 1048575 ?_
    refine pu_ 20 32 24 2097151 ?_
    refine pu_ 21 33 24 4194303 ?_
    refine pz_ 22 34 24 8388607 ?_;refine pz_ 23 35 24 16777215 ?_
    refine done_ (done_of HT_.out (by kernel_rfl)) ?_
    try go_wp2
    go_roundg Z
    case measure=>have:=HK1.out;omega
    case rel=>exact⟨(wrap64 (a + 1)),qe_,H',⟨by have:=HK1.out;omega⟩,⟨qB_⟩⟩
   have R:decide (0<a)=true:=decide_eq_true U
   clear U
   obtain⟨d,l⟩:∃ j_:Int,(wrap64 (a - 1))=j_:=⟨_,rfl⟩
   first|rw[l]at H|simp only[l]at H
   have hji8w:(IntKind.i64.wrap (a - 1))=d:=(i64_w _).trans l
   refine ig_ H ?_;clear H;intro a2 H
   refine ig_ H ?_;clear H;intro X H
   obtain⟨b6,T,H⟩:=bs_ H
   refine ie_ H ?_ ?_<;>clear H<;>rintro rfl H
   ·have H' :=am_ H;clear H
    try go_wp2
    replace HB:=hd_ HB
    have g:=dt_ a
    have i:=du_ a l1.length
    obtain⟨c,j,m,o⟩:=at_T43 I.out a (ot_ g) (ot_ i)
    have s:=o;have t:=m;cases j
    replace m:=qx_ HB m
    replace o:=qx_ HB o
    have v:=dt_ ((d))
    have x:=du_ (d) l1.length
    obtain⟨p,y,D,E⟩:=at_T43 I.out (d) (ot_ v) (ot_ x)
    have J:=E;have L:=D
    obtain rfl:c=p:=(by injection y)
    replace D:=qx_ HB D
    replace E:=qx_ HB E
    have z:=dt_ a
    have A:=du_ a l1.length
    obtain⟨q,B,F,G⟩:=at_T43 I.out a (ot_ z) (ot_ A)
    have M:=G;have N:=F
    obtain rfl:c=q:=(by injection B)
    replace F:=qx_ HB F
    replace G:=qx_ HB G
    refine start_ (n:=24) (S:=fun w' =>w'.cell? (c.add ((a).toNat * 2))=some (.int .i64 ((rd_T43 l1 a).f0))∧w'.cell? ⟨(c.add ((a).toNat * 2)).block,(c.add ((a).toNat * 2)).off + 1,none⟩=some (.int .i64 ((rd_T43 l1 a).f1))∧w'.cell? (c.add (((d)).toNat * 2))=some (.int .i64 ((rd_T43 l1 (d)).f0))∧w'.cell? ⟨(c.add (((d)).toNat * 2)).block,(c.add (((d)).toNat * 2)).off + 1,none⟩=some (.int .i64 ((rd_T43 l1 (d)).f1))∧w'.cell? (c.add ((a).toNat * 2))=some (.int .i64 ((rd_T43 l1 a).f0))∧w'.cell? ⟨(c.add ((a).toNat * 2)).block,(c.add ((a).toNat * 2)).off + 1,none⟩=some (.int .i64 ((rd_T43 l1 a).f1))) (ds:=[]) (bm 24 0) (by kernel_rfl) rfl (by kernel_rfl) ⟨((qx_ HB t).trans rfl),((qx_ HB s).trans rfl),((qx_ HB L).trans rfl),((qx_ HB J).trans rfl),((qx_ HB N).trans rfl),((qx_ HB M).trans rfl)⟩ (fun hHeld=> ?_);refine with_tabW spec_l05Edges.tab4 spec_l05Edges.bits4 (fun HT_ HW_=> ?_)
    generalize wr.drew=a7 at HB m o D E F G hHeld ⊢
    refine pz_ 0 12 24 1 ?_;refine pz_ 1 13 24 3 ?_;refine pz_ 2 14 24 7 ?_;refine pz_ 3 15 24 15 ?_;refine tz6_ 4 16 24 31 ?_
    refine o1_ 5 (some 17) 24 63 (fun K hK=> ?_)
    refine gs_ Try.func71 #[.int .i64 u,.agg #[.int .i64 ((rd_T43 l1 a).f0),.int .i64 ((rd_T43 l1 a).f1)]] ?_
    with_reducible refine(spec_EdgeOk.calls u ((rd_T43 l1 a).f0) ((rd_T43 l1 a).f1) true _ O.out).mono ?_
    rintro e a8 ⟨rfl,hb⟩
    refine⟨_,rfl,?_⟩
    replace HB:=hs_ hb;clear hb
    refine hK.out _ _ ⟨((qx_ HB t).trans rfl),((qx_ HB s).trans rfl),((qx_ HB L).trans rfl),((qx_ HB J).trans rfl),((qx_ HB N).trans rfl),((qx_ HB M).trans rfl)⟩ (fun hHeld=> ?_)
    clear hK K
    refine nm_ 17 ?_
    refine pz_ 6 18 24 127 ?_;refine pz_ 7 19 24 255 ?_;refine pz_ 8 20 24 511 ?_;refine pz_ 9 21 24 1023 ?_;refine pz_ 10 22 24 2047 ?_;refine pz_ 11 23 24 4095 ?_;refine pz_ 12 24 24 8191 ?_;refine pz_ 13 25 24 16383 ?_;refine pz_ 14 26 24 32767 ?_;refine pz_ 16 28 24 98303 ?_;refine pz_ 17 29 24 229375 ?_;refine pz_ 18 30 24 491519 ?_;refine tz6_ 15 27 24 524287 ?_;refine tz6_ 19 31 24 1048575 ?_
    refine o1_ 20 (some 32) 24 2097151 (fun K hK=> ?_)
    refine goes_ Try.func135 (by kernel_rfl) rfl #[.agg #[.int .i64 ((rd_T43 l1 (d)).f0),.int .i64 ((rd_T43 l1 (d)).f1)],.agg #[.int .i64 ((rd_T43 l1 a).f0),.int .i64 ((rd_T43 l1 a).f1)]] (by rfl) rfl rfl (by simp only[List.map_toArray,List.map_cons,List.map_nil];first|done|(simp only[l];rfl)|rfl|(simp only[List.length_drop,List.length_take];rfl)) ?_
    with_reducible refine(spec_l05Less.calls ((rd_T43 l1 (d)).f0) ((rd_T43 l1 (d)).f1) ((rd_T43 l1 a).f0) ((rd_T43 l1 a).f1) true _ T.out).mono ?_
    rintro e a9 ⟨rfl,hb⟩
    refine⟨_,rfl,?_⟩
    replace HB:=hs_ hb;clear hb
    refine hK.out _ _ ⟨((qx_ HB t).trans rfl),((qx_ HB s).trans rfl),((qx_ HB L).trans rfl),((qx_ HB J).trans rfl),((qx_ HB N).trans rfl),((qx_ HB M).trans rfl)⟩ (fun hHeld=> ?_)
    clear hK K
    refine nm_ 32 ?_
    refine pz_ 21 33 24 4194303 ?_;refine pz_ 22 34 24 8388607 ?_;refine pz_ 23 35 24 16777215 ?_
    refine done_ (done_of HT_.out (by kernel_rfl)) ?_
    try go_wp2
    go_roundg Z
    case measure=>have:=HK1.out;omega
    case rel=>exact⟨(wrap64 (a + 1)),qe_,H',⟨by have:=HK1.out;omega⟩,⟨qB_⟩⟩
   obtain rfl:=oi_ H
   try go_wp2
   replace HB:=hd_ HB
   have g:=dt_ a
   have i:=du_ a l1.length
   obtain⟨c,j,m,o⟩:=at_T43 I.out a (ot_ g) (ot_ i)
   have s:=o;have t:=m;cases j
   replace m:=qx_ HB m
   replace o:=qx_ HB o
   have v:=dt_ ((d))
   have x:=du_ (d) l1.length
   obtain⟨p,y,D,E⟩:=at_T43 I.out (d) (ot_ v) (ot_ x)
   have J:=E;have L:=D
   obtain rfl:c=p:=(by injection y)
   replace D:=qx_ HB D
   replace E:=qx_ HB E
   have z:=dt_ a
   have A:=du_ a l1.length
   obtain⟨q,B,F,G⟩:=at_T43 I.out a (ot_ z) (ot_ A)
   have M:=G;have N:=F
   obtain rfl:c=q:=(by injection B)
   replace F:=qx_ HB F
   replace G:=qx_ HB G
   refine start_ (n:=24) (S:=fun w' =>w'.cell? (c.add ((a).toNat * 2))=some (.int .i64 ((rd_T43 l1 a).f0))∧w'.cell? ⟨(c.add ((a).toNat * 2)).block,(c.add ((a).toNat * 2)).off + 1,none⟩=some (.int .i64 ((rd_T43 l1 a).f1))∧w'.cell? (c.add (((d)).toNat * 2))=some (.int .i64 ((rd_T43 l1 (d)).f0))∧w'.cell? ⟨(c.add (((d)).toNat * 2)).block,(c.add (((d)).toNat * 2)).off + 1,none⟩=some (.int .i64 ((rd_T43 l1 (d)).f1))∧w'.cell? (c.add ((a).toNat * 2))=some (.int .i64 ((rd_T43 l1 a).f0))∧w'.cell? ⟨(c.add ((a).toNat * 2)).block,(c.add ((a).toNat * 2)).off + 1,none⟩=some (.int .i64 ((rd_T43 l1 a).f1))) (ds:=[]) (bm 24 0) (by kernel_rfl) rfl (by kernel_rfl) ⟨((qx_ HB t).trans rfl),((qx_ HB s).trans rfl),((qx_ HB L).trans rfl),((qx_ HB J).trans rfl),((qx_ HB N).trans rfl),((qx_ HB M).trans rfl)⟩ (fun hHeld=> ?_);refine with_tabW spec_l05Edges.tab4 spec_l05Edges.bits4 (fun HT_ HW_=> ?_)
   generalize wr.drew=b0 at HB m o D E F G hHeld ⊢
   refine pz_ 0 12 24 1 ?_;refine pz_ 1 13 24 3 ?_;refine pz_ 2 14 24 7 ?_;refine pz_ 3 15 24 15 ?_;refine tz6_ 4 16 24 31 ?_
   refine o1_ 5 (some 17) 24 63 (fun K hK=> ?_)
   refine gs_ Try.func71 #[.int .i64 u,.agg #[.int .i64 ((rd_T43 l1 a).f0),.int .i64 ((rd_T43 l1 a).f1)]] ?_
   with_reducible refine(spec_EdgeOk.calls u ((rd_T43 l1 a).f0) ((rd_T43 l1 a).f1) true _ O.out).mono ?_
   rintro e b1 ⟨rfl,hb⟩
   refine⟨_,rfl,?_⟩
   replace HB:=hs_ hb;clear hb
   refine hK.out _ _ ⟨((qx_ HB t).trans rfl),((qx_ HB s).trans rfl),((qx_ HB L).trans rfl),((qx_ HB J).trans rfl),((qx_ HB N).trans rfl),((qx_ HB M).trans rfl)⟩ (fun hHeld=> ?_)
   clear hK K
   refine nm_ 17 ?_
   refine pz_ 6 18 24 127 ?_;refine pz_ 7 19 24 255 ?_;refine pz_ 8 20 24 511 ?_;refine pz_ 9 21 24 1023 ?_;refine pz_ 10 22 24 2047 ?_;refine pz_ 11 23 24 4095 ?_;refine pz_ 12 24 24 8191 ?_;refine pz_ 13 25 24 16383 ?_;refine pz_ 14 26 24 32767 ?_;refine pz_ 16 28 24 98303 ?_;refine pz_ 17 29 24 229375 ?_;refine pz_ 18 30 24 491519 ?_;refine tz6_ 15 27 24 524287 ?_;refine tz6_ 19 31 24 1048575 ?_
   refine o1_ 20 (some 32) 24 2097151 (fun K hK=> ?_)
   refine goes_ Try.func135 (by kernel_rfl) rfl #[.agg #[.int .i64 ((rd_T43 l1 (d)).f0),.int .i64 ((rd_T43 l1 (d)).f1)],.agg #[.int .i64 ((rd_T43 l1 a).f0),.int .i64 ((rd_T43 l1 a).f1)]] (by rfl) rfl rfl (by simp only[List.map_toArray,List.map_cons,List.map_nil];first|done|(simp only[l];rfl)|rfl|(simp only[List.length_drop,List.length_take];rfl)) ?_
   with_reducible refine(spec_l05Less.calls ((rd_T43 l1 (d)).f0) ((rd_T43 l1 (d)).f1) ((rd_T43 l1 a).f0) ((rd_T43 l1 a).f1) false _ T.out).mono ?_
   rintro e b2 ⟨rfl,hb⟩
   refine⟨_,rfl,?_⟩
   replace HB:=hs_ hb;clear hb
   refine hK.out _ _ ⟨((qx_ HB t).trans rfl),((qx_ HB s).trans rfl),((qx_ HB L).trans rfl),((qx_ HB J).trans rfl),((qx_ HB N).trans rfl),((qx_ HB M).trans rfl)⟩ (fun hHeld=> ?_)
   clear hK K
   refine nm_ 32 ?_
   refine pz_ 21 33 24 4194303 ?_;refine pz_ 22 34 24 8388607 ?_;refine pz_ 23 35 24 16777215 ?_
   refine done_ (done_of HT_.out (by kernel_rfl)) ?_
   try go_wp2
   go_ret
   exact⟨by first|rfl|(simp [errW_none,errW_some]<;>rfl)|(simp only[←l];first|rfl|(simp [errW_none,errW_some]<;>rfl))|(simp [*,errW_none,errW_some]<;>rfl),qB_⟩
end Go.Proofs.Ytbkklafkoegdpaa.QFnTakes

import Derived.Test.YtbkklafkoegdpaaQFnTakesx3
namespace Go.Proofs.Ytbkklafkoegdpaa.QFnTakes
open Go.RowKit Go.Proofs.YtbkklafkoegdpaaW.PrintWords Go.Proofs.YtbkklafkoegdpaaW.PrintLast Go.Proofs.YtbkklafkoegdpaaW.PrintMore
set_option maxHeartbeats 8000000
set_option maxRecDepth 100000
set_option linter.unusedVariables false
set_option linter.unusedSimpArgs false
def impl_edgesOk.l0:Nat→Int→List (S43)→List (S43)→Int→Int→Option (Bool)
  |0,_,_,_,_,_=>none
  |k + 1,x0,x1,x7,x8,x9=>if x9<x8 then (if 0≤x9 then (if x9<(x7.length:Int) then ((impl_EdgeOk.f x0 ((rd_T43 x7 x9).f0) ((rd_T43 x7 x9).f1)).bind fun t109=>(if t109=true then (if x9>0 then (if 0≤(wrap64 (x9 - 1)) then (if (wrap64 (x9 - 1))<(x1.length:Int) then ((impl_ahead.f ((rd_T43 x1 (wrap64 (x9 - 1))).f0) ((rd_T43 x1 (wrap64 (x9 - 1))).f1) ((rd_T43 x7 x9).f0) ((rd_T43 x7 x9).f1)).bind fun t111=>(if t111=true then (impl_edgesOk.l0 k x0 x1 x7 x8 (wrap64 (x9 + 1))) else (some false))) else (none)) else (none)) else (impl_edgesOk.l0 k x0 x1 x7 x8 (wrap64 (x9 + 1)))) else (some false))) else (none)) else (none)) else (some (decide ((x1.length:Int)≤66)))
def impl_edgesOk.f (k:Nat) (a0:Int) (l1:List (S43)):Option (Bool):=impl_edgesOk.l0 k a0 l1 l1 (l1.length:Int) 0
def impl_edgesOk.T4:Bool × List (List Nat × List Nat):=(true,[([],[]),([],[]),([0,1],[0,1]),([2],[2]),([3,2],[3]),([4],[4]),([5,4],[4,5]),([6,4,4],[4,6]),([7],[7]),([7],[7]),([9,7],[7,9]),([8,10,7],[7,8,10]),([11,7],[7,11]),([7],[7]),([12,13,7,7],[7,12,13]),([14,7],[7,14]),([7,15,4],[4,7,15]),([4,16],[4,16])])
def impl_edgesOk.B4:List Nat:=[0,0,3,7,15,31,63,127,255,255,767,2047,4095,255,16383,32767,65535,131071]
theorem impl_edgesOk.tab4:rtab .any (opsOf Try.f111 4)=impl_edgesOk.T4:=by kernel_rfl
theorem impl_edgesOk.bits4:waitsOk impl_edgesOk.T4.2 impl_edgesOk.B4=true:=by kernel_rfl
theorem impl_edgesOk.calls (k:Nat) (u:Int) (a3:Option Addr) (U:Nat) (l1:List (S43)) (r:Bool) (w:World) (hr1:Kd.C k43 w a3 l1.length l1) (hc1:l1.length≤U) (h:impl_edgesOk.f k u l1=some r):
  Calls Try.prog 111 #[.int .i64 u,.slice a3 l1.length U] w fun e w' =>e= .returned (.bool r)∧Below w.heap.size w w' :=by
 have hu43:=Try.underlying43
 have M:=am_ hr1
 have b8:=am_ hc1
 clear hr1 hc1
 have HB:=am_ (Below.refl w.heap.size w)
 rw[impl_edgesOk.f]at h;have H:=h;clear h;have H' :=am_ H;clear H
 go_enter Try.func111,Try.ntmps111
 go_wp2
 go_loopg [9] k (fun kq v9 w' =>∃ (a:Int),v9= .int .i64 a∧Aside0 (impl_edgesOk.l0 kq u l1 l1 (l1.length:Int) a=some r)∧Aside0 (kq≤k)∧Aside0 (Below w.heap.size w w'))
 case atStart=>exact⟨(0),qe_,H',⟨Nat.le_refl _⟩,⟨qB_⟩⟩
 case round=>
  clear H'
  (try clear b9)
  obtain⟨a,rfl,HA,HK1,HB⟩:=hrel
  cases gk with
  |zero=>exact absurd HA.out (by simp [impl_edgesOk.l0])
  |succ a4=>
   have H:=HA.out;clear HA
   simp only[impl_edgesOk.l0]at H
   refine ib_ H ?_ ?_<;>clear H<;>intro a5 H
   ·obtain rfl:=oi_ H
    go_wp2
    go_ret
    exact⟨qr_,qB_⟩
   refine ig_ H ?_;clear H;intro a6 H
   refine ig_ H ?_;clear H;intro a7 H
   obtain⟨c0,N,H⟩:=bs_ H
   refine id_ H ?_ ?_<;>clear H<;>rintro rfl H
   ·obtain rfl:=oi_ H
    have m:=dt_ a
    have o:=du_ a l1.length
    obtain⟨g,p,v,x⟩:=at_T43 M.out a (ot_ m) (ot_ o)
    cases p
    replace v:=qx_ HB v
    replace x:=qx_ HB x
    try go_wp2_with (first|((with_reducible refine gd_ 6 ?_);refine by_ 6 (cs:= #[.int .i64 0,.int .i64 0]) (t:=43) ?_;intro i hg E c hb;have V:=gw_ hg;replace HB:=hs_ hb;clear hb hg;obtain⟨c1,c2,c3,c4⟩:=bc2_ c))
    have j:Aside0 (((E.setCell ⟨i,0,none⟩ (.int .i64 ((rd_T43 l1 a).f0))).setCell ⟨i,1,none⟩ (.int .i64 ((rd_T43 l1 a).f1))).heap[i]? =some (.cells #[.int .i64 ((rd_T43 l1 a).f0),.int .i64 ((rd_T43 l1 a).f1)] 43 (0,0))):=⟨qp_ c⟩
    have l:Aside0 (Below w.heap.size w ((E.setCell ⟨i,0,none⟩ (.int .i64 ((rd_T43 l1 a).f0))).setCell ⟨i,1,none⟩ (.int .i64 ((rd_T43 l1 a).f1)))):=⟨qB_⟩
    clear c HB
    generalize ((E.setCell ⟨i,0,none⟩ (.int .i64 ((rd_T43 l1 a).f0))).setCell ⟨i,1,none⟩ (.int .i64 ((rd_T43 l1 a).f1)))=X at j l ⊢
    have c:=j;have HB:=l;clear j l
    replace c:=bd_ c;replace HB:=hd_ HB
    refine start_ (n:=18) (S:=fun w' =>w'.cell? ⟨i,0,none⟩=some (.int .i64 ((rd_T43 l1 a).f0))∧w'.cell? ⟨i,1,none⟩=some (.int .i64 ((rd_T43 l1 a).f1))) (ds:=[]) (bm 18 0) (by kernel_rfl) rfl (by kernel_rfl) ⟨bl_ c 0,bl_ c 1⟩ (fun hHeld=> ?_);refine with_tabW impl_edgesOk.tab4 impl_edgesOk.bits4 (fun HT_ HW_=> ?_)
    generalize X.drew=a8 at c HB hHeld ⊢
    refine pz_ 0 14 18 1 ?_;refine tz2_ 1 15 18 3 ?_
    refine o1_ 2 (some 16) 18 7 (fun K hK=> ?_)
    refine gs_ Try.func76 #[.int .i64 u,.agg #[.int .i64 ((rd_T43 l1 a).f0),.int .i64 ((rd_T43 l1 a).f1)]] ?_
    with_reducible refine(impl_EdgeOk.calls u ((rd_T43 l1 a).f0) ((rd_T43 l1 a).f1) false _ N.out).mono ?_
    rintro e a9 ⟨rfl,hb⟩
    refine⟨_,rfl,?_⟩
    replace c:=qbl_ c hb;replace HB:=hs_ hb;clear hb
    refine hK.out _ _ ⟨bl_ c 0,bl_ c 1⟩ (fun hHeld=> ?_)
    clear hK K
    refine nm_ 16 ?_
    refine pz_ 3 17 18 15 ?_;refine pz_ 4 18 18 31 ?_
    refine pu_ 5 19 18 63 ?_
    refine pu_ 6 20 18 127 ?_
    refine pu_ 7 21 18 255 ?_
    refine pu_ 8 22 18 511 ?_
    refine pu_ 9 23 18 1023 ?_
    refine pu_ 10 24 18 2047 ?_
    refine pu_ 11 25 18 4095 ?_
    refine pu_ 12 26 18 8191 ?_
    refine pu_ 13 27 18 16383 ?_
    refine pu_ 14 28 18 32767 ?_
    refine pu_ 15 29 18 65535 ?_
    refine pu_ 16 30 18 131071 ?_
    refine pz_ 17 31 18 262143 ?_
    refine done_ (done_of HT_.out (by kernel_rfl)) ?_
    try go_wp2
    go_ret
    exact⟨qr_,qB_⟩
   refine jb_ H ?_ ?_<;>clear H<;>intro T H
   ·have O:decide (0<a)=false:=decide_eq_false T
    clear T;have H' :=am_ H;clear H
    have m:=dt_ a
    have o:=du_ a l1.length
    obtain⟨g,p,v,x⟩:=at_T43 M.out a (ot_ m) (ot_ o)
    cases p
    replace v:=qx_ HB v
    replace x:=qx_ HB x
    try go_wp2_with (first|((with_reducible refine gd_ 6 ?_);refine by_ 6 (cs:= #[.int .i64 0,.int .i64 0]) (t:=43) ?_;intro i hg F c hb;have V:=gw_ hg;replace HB:=hs_ hb;clear hb hg;obtain⟨c5,c6,c7,c8⟩:=bc2_ c))
    have j:Aside0 (((F.setCell ⟨i,0,none⟩ (.int .i64 ((rd_T43 l1 a).f0))).setCell ⟨i,1,none⟩ (.int .i64 ((rd_T43 l1 a).f1))).heap[i]? =some (.cells #[.int .i64 ((rd_T43 l1 a).f0),.int .i64 ((rd_T43 l1 a).f1)] 43 (0,0))):=⟨qp_ c⟩
    have l:Aside0 (Below w.heap.size w ((F.setCell ⟨i,0,none⟩ (.int .i64 ((rd_T43 l1 a).f0))).setCell ⟨i,1,none⟩ (.int .i64 ((rd_T43 l1 a).f1)))):=⟨qB_⟩
    clear c HB
    generalize ((F.setCell ⟨i,0,none⟩ (.int .i64 ((rd_T43 l1 a).f0))).setCell ⟨i,1,none⟩ (.int .i64 ((rd_T43 l1 a).f1)))=Y at j l ⊢
    have c:=j;have HB:=l;clear j l
    replace c:=bd_ c;replace HB:=hd_ HB
    refine start_ (n:=18) (S:=fun w' =>w'.cell? ⟨i,0,none⟩=some (.int .i64 ((rd_T43 l1 a).f0))∧w'.cell? ⟨i,1,none⟩=some (.int .i64 ((rd_T43 l1 a).f1))) (ds:=[]) (bm 18 0) (by kernel_rfl) rfl (by kernel_rfl) ⟨bl_ c 0,bl_ c 1⟩ (fun hHeld=> ?_);refine with_tabW impl_edgesOk.tab4 impl_edgesOk.bits4 (fun HT_ HW_=> ?_)
    generalize Y.drew=b0 at c HB hHeld ⊢
    refine pz_ 0 14 18 1 ?_;refine tz2_ 1 15 18 3 ?_
    refine o1_ 2 (some 16) 18 7 (fun K hK=> ?_)
    refine gs_ Try.func76 #[.int .i64 u,.agg #[.int .i64 ((rd_T43 l1 a).f0),.int .i64 ((rd_T43 l1 a).f1)]] ?_
    with_reducible refine(impl_EdgeOk.calls u ((rd_T43 l1 a).f0) ((rd_T43 l1 a).f1) true _ N.out).mono ?_
    rintro e b1 ⟨rfl,hb⟩
    refine⟨_,rfl,?_⟩
    replace c:=qbl_ c hb;replace HB:=hs_ hb;clear hb
    refine hK.out _ _ ⟨bl_ c 0,bl_ c 1⟩ (fun hHeld=> ?_)
    clear hK K
    refine nm_ 16 ?_
    refine pz_ 3 17 18 15 ?_;refine pz_ 4 18 18 31 ?_;refine pz_ 5 19 18 63 ?_;refine pz_ 6 20 18 127 ?_;refine pz_ 7 21 18 255 ?_
    refine pu_ 8 22 18 511 ?_
    refine pu_ 9 23 18 1023 ?_
    refine pu_ 10 24 18 2047 ?_
    refine pu_ 11 25 18 4095 ?_
    refine pu_ 12 26 18 8191 ?_
    refine pu_ 13 27 18 16383 ?_
    refine pu_ 14 28 18 32767 ?_
    refine pu_ 15 29 18 65535 ?_
    refine pz_ 16 30 18 131071 ?_;refine pz_ 17 31 18 262143 ?_
    refine done_ (done_of HT_.out (by kernel_rfl)) ?_
    try go_wp2
    go_roundg a4
    case measure=>have:=HK1.out;omega
    case rel=>exact⟨(wrap64 (a + 1)),qe_,H',⟨by have:=HK1.out;omega⟩,⟨qB_⟩⟩
   have O:decide (0<a)=true:=decide_eq_true T
   clear T
   obtain⟨d,q⟩:∃ j_:Int,(wrap64 (a - 1))=j_:=⟨_,rfl⟩
   first|rw[q]at H|simp only[q]at H
   have hji9w:(IntKind.i64.wrap (a - 1))=d:=(i64_w _).trans q
   refine ig_ H ?_;clear H;intro Z H
   refine ig_ H ?_;clear H;intro a0 H
   obtain⟨c9,R,H⟩:=bs_ H
   refine ie_ H ?_ ?_<;>clear H<;>rintro rfl H
   ·have H' :=am_ H;clear H
    have m:=dt_ a
    have o:=du_ a l1.length
    obtain⟨g,p,v,x⟩:=at_T43 M.out a (ot_ m) (ot_ o)
    cases p
    replace v:=qx_ HB v
    replace x:=qx_ HB x
    try go_wp2_with (first|((with_reducible refine gd_ 6 ?_);refine by_ 6 (cs:= #[.int .i64 0,.int .i64 0]) (t:=43) ?_;intro i hg G c hb;have V:=gw_ hg;replace HB:=hs_ hb;clear hb hg;obtain⟨d0,d1,d2,d3⟩:=bc2_ c))
    have j:Aside0 (((G.setCell ⟨i,0,none⟩ (.int .i64 ((rd_T43 l1 a).f0))).setCell ⟨i,1,none⟩ (.int .i64 ((rd_T43 l1 a).f1))).heap[i]? =some (.cells #[.int .i64 ((rd_T43 l1 a).f0),.int .i64 ((rd_T43 l1 a).f1)] 43 (0,0))):=⟨qp_ c⟩
    have l:Aside0 (Below w.heap.size w ((G.setCell ⟨i,0,none⟩ (.int .i64 ((rd_T43 l1 a).f0))).setCell ⟨i,1,none⟩ (.int .i64 ((rd_T43 l1 a).f1)))):=⟨qB_⟩
    clear c HB
    generalize ((G.setCell ⟨i,0,none⟩ (.int .i64 ((rd_T43 l1 a).f0))).setCell ⟨i,1,none⟩ (.int .i64 ((rd_T43 l1 a).f1)))=a1 at j l ⊢
    have c:=j;have HB:=l;clear j l
    replace c:=bd_ c;replace HB:=hd_ HB
    have y:=dt_ ((d))
    have z:=du_ (d) l1.length
    obtain⟨s,A,B,D⟩:=at_T43 M.out (d) (ot_ y) (ot_ z)
    have I:=D;have J:=B
    obtain rfl:g=s:=(by injection A)
    replace B:=qx_ HB B
    replace D:=qx_ HB D
    refine start_ (n:=18) (S:=fun w' =>w'.cell? ⟨i,0,none⟩=some (.int .i64 ((rd_T43 l1 a).f0))∧w'.cell? ⟨i,1,none⟩=some (.int .i64 ((rd_T43 l1 a).f1))∧w'.cell? (g.add (((d)).toNat * 2))=some (.int .i64 ((rd_T43 l1 (d)).f0))∧w'.cell? ⟨(g.add (((d)).toNat * 2)).block,(g.add (((d)).toNat * 2)).off + 1,none⟩=some (.int .i64 ((rd_T43 l1 (d)).f1))) (ds:=[]) (bm 18 0) (by kernel_rfl) rfl (by kernel_rfl) ⟨bl_ c 0,bl_ c 1,((qx_ HB J).trans rfl),((qx_ HB I).trans rfl)⟩ (fun hHeld=> ?_);refine with_tabW impl_edgesOk.tab4 impl_edgesOk.bits4 (fun HT_ HW_=> ?_)
    generalize a1.drew=b2 at c HB B D hHeld ⊢
    refine pz_ 0 14 18 1 ?_;refine tz4_ 1 15 18 3 ?_
    refine o1_ 2 (some 16) 18 7 (fun K hK=> ?_)
    refine gs_ Try.func76 #[.int .i64 u,.agg #[.int .i64 ((rd_T43 l1 a).f0),.int .i64 ((rd_T43 l1 a).f1)]] ?_
    with_reducible refine(impl_EdgeOk.calls u ((rd_T43 l1 a).f0) ((rd_T43 l1 a).f1) true _ N.out).mono ?_
    rintro e b3 ⟨rfl,hb⟩
    refine⟨_,rfl,?_⟩
    replace c:=qbl_ c hb;replace HB:=hs_ hb;clear hb
    refine hK.out _ _ ⟨bl_ c 0,bl_ c 1,((qx_ HB J).trans rfl),((qx_ HB I).trans rfl)⟩ (fun hHeld=> ?_)
    clear hK K
    refine nm_ 16 ?_
    refine pz_ 3 17 18 15 ?_;refine pz_ 4 18 18 31 ?_;refine pz_ 5 19 18 63 ?_;refine pz_ 6 20 18 127 ?_;refine pz_ 7 21 18 255 ?_;refine pz_ 8 22 18 511 ?_;refine pz_ 9 23 18 1023 ?_;refine pz_ 10 24 18 2047 ?_;refine pz_ 11 25 18 4095 ?_;refine tz4_ 12 26 18 8191 ?_;refine tz4_ 13 27 18 16383 ?_
    refine o1_ 14 (some 28) 18 32767 (fun K hK=> ?_)
    refine goes_ Try.func90 (by kernel_rfl) rfl #[.agg #[.int .i64 ((rd_T43 l1 (d)).f0),.int .i64 ((rd_T43 l1 (d)).f1)],.agg #[.int .i64 ((rd_T43 l1 a).f0),.int .i64 ((rd_T43 l1 a).f1)]] (by rfl) rfl rfl (by simp only[List.map_toArray,List.map_cons,List.map_nil];first|done|(simp only[q];rfl)|rfl|(simp only[List.length_drop,List.length_take];rfl)) ?_
    with_reducible refine(impl_ahead.calls ((rd_T43 l1 (d)).f0) ((rd_T43 l1 (d)).f1) ((rd_T43 l1 a).f0) ((rd_T43 l1 a).f1) true _ R.out).mono ?_
    rintro e b4 ⟨rfl,hb⟩
    refine⟨_,rfl,?_⟩
    replace c:=qbl_ c hb;replace HB:=hs_ hb;clear hb
    refine hK.out _ _ ⟨bl_ c 0,bl_ c 1,((qx_ HB J).trans rfl),((qx_ HB I).trans rfl)⟩ (fun hHeld=> ?_)
    clear hK K
    refine nm_ 28 ?_
    refine pz_ 15 29 18 65535 ?_;refine pz_ 16 30 18 131071 ?_;refine pz_ 17 31 18 262143 ?_
    refine done_ (done_of HT_.out (by kernel_rfl)) ?_
    try go_wp2
    go_roundg a4
    case measure=>have:=HK1.out;omega
    case rel=>exact⟨(wrap64 (a + 1)),qe_,H',⟨by have:=HK1.out;omega⟩,⟨qB_⟩⟩
   obtain rfl:=oi_ H
   have m:=dt_ a
   have o:=du_ a l1.length
   obtain⟨g,p,v,x⟩:=at_T43 M.out a (ot_ m) (ot_ o)
   cases p
   replace v:=qx_ HB v
   replace x:=qx_ HB x
   try go_wp2_with (first|((with_reducible refine gd_ 6 ?_);refine by_ 6 (cs:= #[.int .i64 0,.int .i64 0]) (t:=43) ?_;intro i hg L c hb;have V:=gw_ hg;replace HB:=hs_ hb;clear hb hg;obtain⟨d4,d5,d6,d7⟩:=bc2_ c))
   have j:Aside0 (((L.setCell ⟨i,0,none⟩ (.int .i64 ((rd_T43 l1 a).f0))).setCell ⟨i,1,none⟩ (.int .i64 ((rd_T43 l1 a).f1))).heap[i]? =some (.cells #[.int .i64 ((rd_T43 l1 a).f0),.int .i64 ((rd_T43 l1 a).f1)] 43 (0,0))):=⟨qp_ c⟩
   have l:Aside0 (Below w.heap.size w ((L.setCell ⟨i,0,none⟩ (.int .i64 ((rd_T43 l1 a).f0))).setCell ⟨i,1,none⟩ (.int .i64 ((rd_T43 l1 a).f1)))):=⟨qB_⟩
   clear c HB
   generalize ((L.setCell ⟨i,0,none⟩ (.int .i64 ((rd_T43 l1 a).f0))).setCell ⟨i,1,none⟩ (.int .i64 ((rd_T43 l1 a).f1)))=a2 at j l ⊢
   have c:=j;have HB:=l;clear j l
   replace c:=bd_ c;replace HB:=hd_ HB
   have y:=dt_ ((d))
   have z:=du_ (d) l1.length
   obtain⟨s,A,B,D⟩:=at_T43 M.out (d) (ot_ y) (ot_ z)
   have I:=D;have J:=B
   obtain rfl:g=s:=(by injection A)
   replace B:=qx_ HB B
   replace D:=qx_ HB D
   refine start_ (n:=18) (S:=fun w' =>w'.cell? ⟨i,0,none⟩=some (.int .i64 ((rd_T43 l1 a).f0))∧w'.cell? ⟨i,1,none⟩=some (.int .i64 ((rd_T43 l1 a).f1))∧w'.cell? (g.add (((d)).toNat * 2))=some (.int .i64 ((rd_T43 l1 (d)).f0))∧w'.cell? ⟨(g.add (((d)).toNat * 2)).block,(g.add (((d)).toNat * 2)).off + 1,none⟩=some (.int .i64 ((rd_T43 l1 (d)).f1))) (ds:=[]) (bm 18 0) (by kernel_rfl) rfl (by kernel_rfl) ⟨bl_ c 0,bl_ c 1,((qx_ HB J).trans rfl),((qx_ HB I).trans rfl)⟩ (fun hHeld=> ?_);refine with_tabW impl_edgesOk.tab4 impl_edgesOk.bits4 (fun HT_ HW_=> ?_)
   generalize a2.drew=b5 at c HB B D hHeld ⊢
   refine pz_ 0 14 18 1 ?_;refine tz4_ 1 15 18 3 ?_
   refine o1_ 2 (some 16) 18 7 (fun K hK=> ?_)
   refine gs_ Try.func76 #[.int .i64 u,.agg #[.int .i64 ((rd_T43 l1 a).f0),.int .i64 ((rd_T43 l1 a).f1)]] ?_
   with_reducible refine(impl_EdgeOk.calls u ((rd_T43 l1 a).f0) ((rd_T43 l1 a).f1) true _ N.out).mono ?_
   rintro e b6 ⟨rfl,hb⟩
   refine⟨_,rfl,?_⟩
   replace c:=qbl_ c hb;replace HB:=hs_ hb;clear hb
   refine hK.out _ _ ⟨bl_ c 0,bl_ c 1,((qx_ HB J).trans rfl),((qx_ HB I).trans rfl)⟩ (fun hHeld=> ?_)
   clear hK K
   refine nm_ 16 ?_
   refine pz_ 3 17 18 15 ?_;refine pz_ 4 18 18 31 ?_;refine pz_ 5 19 18 63 ?_;refine pz_ 6 20 18 127 ?_;refine pz_ 7 21 18 255 ?_;refine pz_ 8 22 18 511 ?_;refine pz_ 9 23 18 1023 ?_;refine pz_ 10 24 18 2047 ?_;refine pz_ 11 25 18 4095 ?_;refine tz4_ 12 26 18 8191 ?_;refine tz4_ 13 27 18 16383 ?_
   refine o1_ 14 (some 28) 18 32767 (fun K hK=> ?_)
   refine goes_ Try.func90 (by kernel_rfl) rfl #[.agg #[.int .i64 ((rd_T43 l1 (d)).f0),.int .i64 ((rd_T43 l1 (d)).f1)],.agg #[.int .i64 ((rd_T43 l1 a).f0),.int .i64 ((rd_T43 l1 a).f1)]] (by rfl) rfl rfl (by simp only[List.map_toArray,List.map_cons,List.map_nil];first|done|(simp only[q];rfl)|rfl|(simp only[List.length_drop,List.length_take];rfl)) ?_
   with_reducible refine(impl_ahead.calls ((rd_T43 l1 (d)).f0) ((rd_T43 l1 (d)).f1) ((rd_T43 l1 a).f0) ((rd_T43 l1 a).f1) false _ R.out).mono ?_
   rintro e b7 ⟨rfl,hb⟩
   refine⟨_,rfl,?_⟩
   replace c:=qbl_ c hb;replace HB:=hs_ hb;clear hb
   refine hK.out _ _ ⟨bl_ c 0,bl_ c 1,((qx_ HB J).trans rfl),((qx_ HB I).trans rfl)⟩ (fun hHeld=> ?_)
   clear hK K
   refine nm_ 28 ?_
   refine pz_ 15 29 18 65535 ?_;refine pz_ 16 30 18 131071 ?_;refine pz_ 17 31 18 262143 ?_
   refine done_ (done_of HT_.out (by kernel_rfl)) ?_
   try go_wp2
   go_ret
   exact⟨by first|rfl|(simp [errW_none,errW_some]<;>rfl)|(simp only[←q];first|rfl|(simp [errW_none,errW_some]<;>rfl))|(simp [*,errW_none,errW_some]<;>rfl),qB_⟩
end Go.Proofs.Ytbkklafkoegdpaa.QFnTakes

import Derived.Test.YtbkklafkoegdpaaQFnTakesx6
namespace Go.Proofs.Ytbkklafkoegdpaa.QFnTakes
open Go.RowKit Go.Proofs.YtbkklafkoegdpaaW.PrintWords Go.Proofs.YtbkklafkoegdpaaW.PrintLast Go.Proofs.YtbkklafkoegdpaaW.PrintMore
set_option maxHeartbeats 8000000
set_option maxRecDepth 100000
set_option linter.unusedVariables false
set_option linter.unusedSimpArgs false
mutual
def impl_WebOk.j0:Nat→Bool→Int→List (S72)→Option (Bool)
  |0,_,_,_=>none
  |k + 1,x17,x173000,x173001=>if x17=true then (some false) else (impl_WebOk.l0 k x173001 (x173001.length:Int) 0 x173000 x173001)
def impl_WebOk.l0:Nat→List (S72)→Int→Int→Int→List (S72)→Option (Bool)
  |0,_,_,_,_,_=>none
  |k + 1,x19,x20,x21,x173000,x173001=>if x21<x20 then (if 0≤x21 then (if x21<(x19.length:Int) then ((impl_in.f ((rd_T72 x19 x21).f2) 0 4).bind fun t184=>(if t184=true then ((impl_labelsAt.f k x173000 x173001 ((rd_T72 x19 x21).f2)).bind fun t185=>(if ((rd_T72 x19 x21).f3=true) then (impl_WebOk.l0 k x19 x20 (wrap64 (x21 + 1)) x173000 x173001) else (if 0≤((rd_T72 x19 x21).f0) then (if ((rd_T72 x19 x21).f0)<(t185.length:Int) then (if 0≤((rd_T72 x19 x21).f1) then (if ((rd_T72 x19 x21).f1)<(t185.length:Int) then (if (rd t185 ((rd_T72 x19 x21).f0))=(rd t185 ((rd_T72 x19 x21).f1)) then (impl_WebOk.l0 k x19 x20 (wrap64 (x21 + 1)) x173000 x173001) else (some false)) else (none)) else (none)) else (none)) else (none)))) else (some false))) else (none)) else (none)) else (impl_WebOk.l1 k 1 x173000 x173001)
def impl_WebOk.l1:Nat→Int→Int→List (S72)→Option (Bool)
  |0,_,_,_=>none
  |k + 1,x6,x173000,x173001=>if x6≤4 then ((impl_levelOk.f k x173000 x173001 x6).bind fun t190=>(if t190=true then (impl_WebOk.l1 k (wrap64 (x6 + 1)) x173000 x173001) else (some false))) else (some true)
end
def impl_WebOk.f (k:Nat) (a0_0:Int) (l0_1:List (S72)):Option (Bool):=(impl_GraphOf.f k a0_0 l0_1).bind fun bt173=>((impl_GraphOk.f k bt173.1 bt173.2).bind fun t177=>(if t177=true then ((impl_treeEdges.f k a0_0 l0_1).bind fun t178=>((impl_rings.f k a0_0 t178).bind fun t181=>(impl_WebOk.j0 k t181 a0_0 l0_1))) else (impl_WebOk.j0 k true a0_0 l0_1)))
def impl_WebOk.T1:Bool × List (List Nat × List Nat):=(true,[([],[]),([0],[0]),([1,1],[1]),([2],[2]),([3,2],[3]),([4],[4]),([5,4],[4,5]),([4],[4]),([7,4,4],[4,7]),([6,8,8,4],[4,6,8]),([4,9],[4,9])])
def impl_WebOk.B1:List Nat:=[0,1,3,7,15,31,63,31,159,511,1023]
theorem impl_WebOk.tab1:rtab .any (opsOf Try.f16 1)=impl_WebOk.T1:=by kernel_rfl
theorem impl_WebOk.bits1:waitsOk impl_WebOk.T1.2 impl_WebOk.B1=true:=by kernel_rfl
def impl_WebOk.T9:Bool × List (List Nat × List Nat):=(true,[([],[]),([0],[0]),([1],[1]),([2],[2]),([3],[3]),([3],[3]),([5,3],[3,5]),([4,6,3],[3,4,6]),([7,3],[3,7]),([3],[3]),([3],[3]),([10,3],[3,10]),([9,11,3],[3,9,11]),([12,3],[3,12]),([8,13,3],[3,8,13]),([3,14],[3,14])])
def impl_WebOk.B9:List Nat:=[0,1,3,7,15,15,47,127,255,15,15,1039,3599,7695,16383,32767]
theorem impl_WebOk.tab9:rtab .any (opsOf Try.f16 9)=impl_WebOk.T9:=by kernel_rfl
theorem impl_WebOk.bits9:waitsOk impl_WebOk.T9.2 impl_WebOk.B9=true:=by kernel_rfl
theorem impl_WebOk.calls (k:Nat) (d:Int) (m:Option Addr) (l:Nat) (c:List (S72)) (r:Bool) (w:World) (hr0_1:Kd.C k72 w m c.length c) (hc0_1:c.length≤l) (h:impl_WebOk.f k d c=some r):
  Calls Try.prog 16 #[.agg #[.int .i64 d,.slice m c.length l]] w fun e w' =>e= .returned (.bool r)∧Below w.heap.size w w' :=by
 have hu29:=Try.underlying29;have hu72:=Try.underlying72
 have j:=am_ hr0_1
 have p:=am_ hc0_1
 clear hr0_1 hc0_1
 have HB:=am_ (Below.refl w.heap.size w)
 rw[impl_WebOk.f]at h;have H:=h;clear h
 have c8:=am_ H
 clear H
 go_enter Try.func16,Try.ntmps16
 go_upto_region 1 with (first|((with_reducible refine gd_ 1 ?_);refine by_ 1 (cs:= #[.int .i64 d,.slice m c.length l]) (t:=29) ?_;intro a8 hg d8 i hb;have o9:=gw_ hg;replace HB:=hs_ hb;clear hb hg))
 (try simp only[Act.put,sA_,sB_,sC_])
 go_cut [17] (fun v17 wc=>∃ (kq:Nat) (M:Bool),v17= .bool M∧Aside0 (impl_WebOk.j0 kq M d c=some r)∧Aside0 (kq≤k)∧Aside0 (wc.heap[a8]? =some (.cells #[.int .i64 d,(.slice m c.length l)] 29 (0,0)))∧Aside0 (Below w.heap.size w wc))
 case first=>
  have H:=c8.out;clear c8
  obtain⟨⟨b9,c0⟩,d9,H⟩:=bs_ H;dsimp only at H
  obtain⟨p0,e0,H⟩:=bs_ H
  refine id_ H ?_ ?_<;>clear H<;>rintro rfl H
  ·have H' :=am_ H;clear H
   try go_wp2
   replace i:=bd_ i;replace HB:=hd_ HB
   refine start_ (n:=11) (S:=fun w' =>w'.cell? ⟨a8,0,none⟩=some (.int .i64 d)∧w'.cell? ⟨a8,1,none⟩=some (.slice m c.length l)) (ds:=[]) (bm 11 0) (by kernel_rfl) rfl (by kernel_rfl) ⟨bl_ i 0,bl_ i 1⟩ (fun hHeld=> ?_);refine with_tabW impl_WebOk.tab1 impl_WebOk.bits1 (fun HT_ HW_=> ?_)
   generalize d8.drew=f6 at i HB hHeld ⊢
   refine tz2_ 0 7 11 1 ?_
   refine o1_ 1 (some 8) 11 3 (fun K hK=> ?_)
   refine gs_ Try.func63 #[.agg #[.int .i64 d,.slice m c.length l]] ?_
   with_reducible refine(impl_GraphOf.calls k d _ _ c b9 c0 _ ?side1 ?side2 d9.out).mono ?_
   (case side1=>exact qC_ j HB)
   (case side2=>exact p.out)
   rintro e f7 ⟨f8,rfl,ho0,hb⟩
   refine⟨_,rfl,?_⟩
   have L:=am_ (Kd.R_lower ho0 (below_size qB_));replace i:=qbl_ i hb;replace HB:=hs_ hb;clear hb ho0
   obtain⟨f9,g0,e1⟩:=Kd.R_slice L.out
   (first|subst e1|(injection e1 with u D v;have E:=u.symm;have F:=v.symm;clear u D v;subst E;subst F))
   refine hK.out _ _ ⟨bl_ i 0,bl_ i 1⟩ (fun hHeld=> ?_)
   clear hK K
   refine nm_ 8 ?_
   refine o1_ 2 (some 9) 11 7 (fun K hK=> ?_)
   refine gs_ Try.func62 #[.agg #[.int .i64 b9,.slice f9 c0.length g0]] ?_
   with_reducible refine(impl_GraphOk.calls k b9 _ _ c0 false _ ?side1 ?side2 e0.out).mono ?_
   (case side1=>exact qD_ (Kd.R_reads' L.out).2.2)
   (case side2=>exact(Kd.R_reads' L.out).2.1)
   rintro e g1 ⟨rfl,hb⟩
   refine⟨_,rfl,?_⟩
   replace L:=kb_ L hb;replace i:=qbl_ i hb;replace HB:=hs_ hb;clear hb
   refine hK.out _ _ ⟨bl_ i 0,bl_ i 1⟩ (fun hHeld=> ?_)
   clear hK K
   refine nm_ 9 ?_
   refine pz_ 3 10 11 15 ?_;refine pz_ 4 11 11 31 ?_
   refine pu_ 5 12 11 63 ?_
   refine pu_ 6 13 11 127 ?_
   refine pu_ 7 14 11 255 ?_
   refine pu_ 8 15 11 511 ?_
   refine pu_ 9 16 11 1023 ?_
   refine pz_ 10 17 11 2047 ?_
   refine done_ (done_of HT_.out (by kernel_rfl)) ?_
   try go_wp2
   go_meet
   case rel=>exact⟨_,(true),qe_,H',⟨qo_⟩,⟨qk_ i⟩,⟨qB_⟩⟩
  obtain⟨c9,g2,H⟩:=bs_ H
  obtain⟨e2,g3,H⟩:=bs_ H
  have H' :=am_ H;clear H
  try go_wp2
  replace i:=bd_ i;replace HB:=hd_ HB
  refine start_ (n:=11) (S:=fun w' =>w'.cell? ⟨a8,0,none⟩=some (.int .i64 d)∧w'.cell? ⟨a8,1,none⟩=some (.slice m c.length l)) (ds:=[]) (bm 11 0) (by kernel_rfl) rfl (by kernel_rfl) ⟨bl_ i 0,bl_ i 1⟩ (fun hHeld=> ?_);refine with_tabW impl_WebOk.tab1 impl_WebOk.bits1 (fun HT_ HW_=> ?_)
  generalize d8.drew=p1 at i HB hHeld ⊢
  refine tz2_ 0 7 11 1 ?_
  refine o1_ 1 (some 8) 11 3 (fun K hK=> ?_)
  refine gs_ Try.func63 #[.agg #[.int .i64 d,.slice m c.length l]] ?_
  with_reducible refine(impl_GraphOf.calls k d _ _ c b9 c0 _ ?side1 ?side2 d9.out).mono ?_
  (case side1=>exact qC_ j HB)
  (case side2=>exact p.out)
  rintro e g4 ⟨f8,rfl,ho0,hb⟩
  refine⟨_,rfl,?_⟩
  have L:=am_ (Kd.R_lower ho0 (below_size qB_));replace i:=qbl_ i hb;replace HB:=hs_ hb;clear hb ho0
  obtain⟨g5,g6,e3⟩:=Kd.R_slice L.out
  (first|subst e3|(injection e3 with u D v;have E:=u.symm;have F:=v.symm;clear u D v;subst E;subst F))
  refine hK.out _ _ ⟨bl_ i 0,bl_ i 1⟩ (fun hHeld=> ?_)
  clear hK K
  refine nm_ 8 ?_
  refine o1_ 2 (some 9) 11 7 (fun K hK=> ?_)
  refine gs_ Try.func62 #[.agg #[.int .i64 b9,.slice g5 c0.length g6]] ?_
  with_reducible refine(impl_GraphOk.calls k b9 _ _ c0 true _ ?side1 ?side2 e0.out).mono ?_
  (case side1=>exact qD_ (Kd.R_reads' L.out).2.2)
  (case side2=>exact(Kd.R_reads' L.out).2.1)
  rintro e g7 ⟨rfl,hb⟩
  refine⟨_,rfl,?_⟩
  replace L:=kb_ L hb;replace i:=qbl_ i hb;replace HB:=hs_ hb;clear hb
  refine hK.out _ _ ⟨bl_ i 0,bl_ i 1⟩ (fun hHeld=> ?_)
  clear hK K
  refine nm_ 9 ?_
  refine pz_ 3 10 11 15 ?_;refine pz_ 4 11 11 31 ?_;refine pz_ 5 12 11 63 ?_;refine tz2_ 6 13 11 127 ?_;refine tz2_ 7 14 11 255 ?_
  refine o1_ 8 (some 15) 11 511 (fun K hK=> ?_)
  refine gs_ Try.func65 #[.agg #[.int .i64 d,.slice m c.length l]] ?_
  with_reducible refine(impl_treeEdges.calls k d _ _ c c9 _ ?side1 ?side2 g2.out).mono ?_
  (case side1=>exact qC_ j HB)
  (case side2=>exact p.out)
  rintro e g8 ⟨p2,rfl,ho0,hb⟩
  refine⟨_,rfl,?_⟩
  have c4:=am_ (Kd.R_lower (Kd.R_new' ho0 (Kd.R_lt (qR_ L))) (below_size qB_));replace L:=ke_ L ho0 hb;replace i:=qbl_ i hb;replace HB:=hs_ hb;clear hb ho0
  obtain⟨l2,l3,e4⟩:=Kd.R_slice c4.out
  (first|subst e4|(injection e4 with u D v;have E:=u.symm;have F:=v.symm;clear u D v;subst E;subst F))
  refine hK.out _ _ ⟨bl_ i 0,bl_ i 1⟩ (fun hHeld=> ?_)
  clear hK K
  refine nm_ 15 ?_
  refine o1_ 9 (some 16) 11 1023 (fun K hK=> ?_)
  refine gs_ Try.func64 #[.int .i64 d,.slice l2 c9.length l3] ?_
  with_reducible refine(impl_rings.calls k d _ _ c9 e2 _ ?side1 ?side2 g3.out).mono ?_
  (case side1=>exact qD_ (Kd.R_reads' c4.out).2.2)
  (case side2=>exact(Kd.R_reads' c4.out).2.1)
  rintro e g9 ⟨rfl,hb⟩
  refine⟨_,rfl,?_⟩
  replace L:=kb_ L hb;replace c4:=kb_ c4 hb;replace i:=qbl_ i hb;replace HB:=hs_ hb;clear hb
  refine hK.out _ _ ⟨bl_ i 0,bl_ i 1⟩ (fun hHeld=> ?_)
  clear hK K
  refine nm_ 16 ?_
  refine pz_ 10 17 11 2047 ?_
  refine done_ (done_of HT_.out (by kernel_rfl)) ?_
  try go_wp2
  go_meet
  case rel=>exact⟨_,(e2),qe_,H',⟨qo_⟩,⟨qk_ i⟩,⟨qB_⟩⟩
 case rest=>
  clear c8
  obtain⟨kq,M,rfl,HA,c1,i,HB⟩:=hcut
  cases kq with
  |zero=>exact absurd HA.out (by simp [impl_WebOk.j0])
  |succ kj1=>
   have H:=HA.out;clear HA
   simp only[impl_WebOk.j0]at H
   refine ie_ H ?_ ?_<;>clear H<;>rintro rfl H
   ·obtain rfl:=oi_ H
    go_wp2
    go_ret
    exact⟨qr_,qB_⟩
   have H' :=am_ H;clear H
   obtain⟨e7,e8,e9,f4⟩:=bc2_ i
   go_wp2
   go_loopg [21] kj1 (fun kq v21 w' =>∃ (a:Int),v21= .int .i64 a∧Aside0 (impl_WebOk.l0 kq c (c.length:Int) a d c=some r)∧Aside0 (kq≤kj1)∧Aside0 (w'.heap[a8]? =some (.cells #[.int .i64 d,(.slice m c.length l)] 29 (0,0)))∧Aside0 (Below w.heap.size w w'))
   case atStart=>exact⟨(0),qe_,H',⟨Nat.le_refl _⟩,⟨qk_ i⟩,⟨qB_⟩⟩
   case round=>
    clear H' e7 e8 e9 f4
    obtain⟨a,rfl,HA,HK2,i,HB⟩:=hrel
    cases gk with
    |zero=>exact absurd HA.out (by simp [impl_WebOk.l0])
    |succ a9=>
     have H:=HA.out;clear HA
     simp only[impl_WebOk.l0]at H
     refine ib_ H ?_ ?_<;>clear H<;>intro b0 H
     ·have H' :=am_ H;clear H
      go_wp2
      go_loopg [6] a9 (fun kq v6 w' =>∃ (y:Int),v6= .int .i64 y∧Aside0 (impl_WebOk.l1 kq y d c=some r)∧Aside0 (kq≤a9)∧Aside0 (w'.heap[a8]? =some (.cells #[.int .i64 d,(.slice m c.length l)] 29 (0,0)))∧Aside0 (Below w.heap.size w w'))
      case atStart=>exact⟨(1),qe_,H',⟨Nat.le_refl _⟩,⟨qk_ i⟩,⟨qB_⟩⟩
      case round=>
       clear H' b0
       obtain⟨y,rfl,HA,HK3,i,HB⟩:=hrel
       cases gk with
       |zero=>exact absurd HA.out (by simp [impl_WebOk.l1])
       |succ d1=>
        have H:=HA.out;clear HA
        simp only[impl_WebOk.l1]at H
        refine ib_ H ?_ ?_<;>clear H<;>intro d2 H
        ·obtain rfl:=oi_ H
         go_wp2
         go_ret
         exact⟨qr_,qB_⟩
        obtain⟨q2,c6,H⟩:=bs_ H
        refine ie_ H ?_ ?_<;>clear H<;>rintro rfl H
        ·have H' :=am_ H;clear H
         obtain⟨j4,q3,q4,q5⟩:=bc2_ i
         go_wp2_with (first|((with_reducible refine gc_ 68 ?_);refine gl_ (some 56) Try.func68 #[.agg #[.int .i64 d,.slice m c.length l],.int .i64 y] ?_;(with_reducible refine(impl_levelOk.calls d1 d _ _ c y true _ ?_ ?_ c6.out).mono ?_);exact qC_ j HB;exact p.out;rintro e o0 ⟨rfl,hb⟩;refine⟨_,rfl,?_⟩;replace i:=qbl_ i hb;replace HB:=hs_ hb;clear hb))
         go_roundg d1
         case measure=>have:=c1.out;have:=HK2.out;have:=HK3.out;omega
         case rel=>exact⟨(wrap64 (y + 1)),qe_,H',⟨by have:=c1.out;have:=HK2.out;have:=HK3.out;omega⟩,⟨qk_ i⟩,⟨qB_⟩⟩
        obtain rfl:=oi_ H
        obtain⟨q6,q7,q8,q9⟩:=bc2_ i
        go_wp2_with (first|((with_reducible refine gc_ 68 ?_);refine gl_ (some 56) Try.func68 #[.agg #[.int .i64 d,.slice m c.length l],.int .i64 y] ?_;(with_reducible refine(impl_levelOk.calls d1 d _ _ c y false _ ?_ ?_ c6.out).mono ?_);exact qC_ j HB;exact p.out;rintro e o1 ⟨rfl,hb⟩;refine⟨_,rfl,?_⟩;replace i:=qbl_ i hb;replace HB:=hs_ hb;clear hb))
        go_ret
        exact⟨qr_,qB_⟩
     refine ig_ H ?_;clear H;intro b1 H
     refine ig_ H ?_;clear H;intro b2 H
     obtain⟨r0,a7,H⟩:=bs_ H
     refine id_ H ?_ ?_<;>clear H<;>rintro rfl H
     ·obtain rfl:=oi_ H
      have z:=dt_ a
      have A:=du_ a c.length
      obtain⟨x,B,Z,a0,a1,N⟩:=at_T72 j.out a (ot_ z) (ot_ A)
      cases B
      replace Z:=qx_ HB Z
      replace a0:=qx_ HB a0
      replace a1:=qx_ HB a1
      replace N:=qx_ HB N
      go_wp2_with (first|((with_reducible refine gd_ 4 ?_);refine by_ 4 (cs:= #[.int .i64 0,.int .i64 0,.int .i64 0,.bool false]) (t:=72) ?_;intro I hg o2 q hb;have d3:=gw_ hg;obtain⟨d4,b7⟩:=qn_ i hg;replace i:=qbl_ i hb;replace HB:=hs_ hb;clear hb hg;obtain⟨r1,r2⟩:=nn_ b7;obtain⟨l4,l5,l6,l7,n6,n7,n8,n9⟩:=bc4_ q)|((with_reducible refine gc_ 66 ?_);refine gl_ (some 27) Try.func66 #[.int .i64 ((rd_T72 c a).f2),.int .i64 0,.int .i64 4] ?_;(with_reducible refine(impl_in.calls ((rd_T72 c a).f2) 0 4 false _ a7.out).mono ?_);rintro e w' ⟨rfl,⟨nd,rfl⟩⟩;refine⟨_,rfl,?_⟩))
      go_ret
      exact⟨qr_,qB_⟩
     obtain⟨G,b8,H⟩:=bs_ H
     generalize a4:((rd_T72 c a).f3)=f5 at H;have O:=am_ a4.symm;clear a4
     refine ie_ H ?_ ?_<;>clear H<;>rintro rfl H
     ·have H' :=am_ H;clear H
      have z:=dt_ a
      have A:=du_ a c.length
      obtain⟨x,B,Z,a0,a1,N⟩:=at_T72 j.out a (ot_ z) (ot_ A)
      rw[←O.out]at N
      cases B
      replace Z:=qx_ HB Z
      replace a0:=qx_ HB a0
      replace a1:=qx_ HB a1
      replace N:=qx_ HB N
      try go_wp2_with (first|((with_reducible refine gd_ 4 ?_);refine by_ 4 (cs:= #[.int .i64 0,.int .i64 0,.int .i64 0,.bool false]) (t:=72) ?_;intro I hg o3 q hb;have d3:=gw_ hg;obtain⟨d4,b7⟩:=qn_ i hg;replace i:=qbl_ i hb;replace HB:=hs_ hb;clear hb hg;obtain⟨r3,r4⟩:=nn_ b7;obtain⟨i7,i8,i9,j5,l8,l9,m0,m1⟩:=bc4_ q)|((with_reducible refine gc_ 66 ?_);refine gl_ (some 27) Try.func66 #[.int .i64 ((rd_T72 c a).f2),.int .i64 0,.int .i64 4] ?_;(with_reducible refine(impl_in.calls ((rd_T72 c a).f2) 0 4 true _ a7.out).mono ?_);rintro e w' ⟨rfl,⟨nd,rfl⟩⟩;refine⟨_,rfl,?_⟩;obtain⟨j6,j7,m2,m3⟩:=bc2_ i)|((with_reducible refine gc_ 67 ?_);refine gl_ (some 32) Try.func67 #[.agg #[.int .i64 d,.slice (some x) c.length l],.int .i64 ((rd_T72 c a).f2)] ?_;(with_reducible refine(impl_labelsAt.calls a9 d _ _ c ((rd_T72 c a).f2) G _ ?_ ?_ b8.out).mono ?_);exact Kd.C_below j.out qB_;exact p.out;rintro e d5 ⟨j1,rfl,ho0,hb⟩;refine⟨_,rfl,?_⟩;have J:=am_ (Kd.R_lower ho0 (below_size qB_));replace i:=qbl_ i hb;replace q:=am_ (blk_below (g:=I) (o:= .cells #[.int .i64 ((rd_T72 c a).f0),.int .i64 ((rd_T72 c a).f1),.int .i64 ((rd_T72 c a).f2),.bool true] 72 (0,0)) (qp_ q) hb);replace HB:=hs_ hb;clear hb ho0))
      replace J:=rd_ J;replace i:=bd_ i;replace q:=bd_ q;replace HB:=hd_ HB
      refine start_ (n:=16) (S:=fun w' =>w'.cell? ⟨I,0,none⟩=some (.int .i64 ((rd_T72 c a).f0))∧w'.cell? ⟨I,1,none⟩=some (.int .i64 ((rd_T72 c a).f1))∧w'.cell? ⟨I,2,none⟩=some (.int .i64 ((rd_T72 c a).f2))∧w'.cell? ⟨I,3,none⟩=some (.bool true)) (ds:=[]) (bm 16 0) (by kernel_rfl) rfl (by kernel_rfl) ⟨bl_ q 0,bl_ q 1,bl_ q 2,bl_ q 3⟩ (fun hHeld=> ?_);refine with_tabW impl_WebOk.tab9 impl_WebOk.bits9 (fun HT_ HW_=> ?_)
      generalize d5.drew=o4 at J i q HB hHeld ⊢
      refine pz_ 0 33 16 1 ?_;refine tz4_ 1 34 16 3 ?_;refine pz_ 2 35 16 7 ?_;refine pz_ 3 36 16 15 ?_
      refine pu_ 4 37 16 31 ?_
      refine pu_ 5 38 16 63 ?_
      refine pu_ 6 39 16 127 ?_
      refine pu_ 7 40 16 255 ?_
      refine pu_ 8 41 16 511 ?_
      refine pu_ 9 42 16 1023 ?_
      refine pu_ 10 43 16 2047 ?_
      refine pu_ 11 44 16 4095 ?_
      refine pu_ 12 45 16 8191 ?_
      refine pu_ 13 46 16 16383 ?_
      refine pu_ 14 47 16 32767 ?_
      refine pz_ 15 48 16 65535 ?_
      refine done_ (done_of HT_.out (by kernel_rfl)) ?_
      try go_wp2
      go_roundg a9
      case measure=>have:=c1.out;have:=HK2.out;omega
      case rel=>exact⟨(wrap64 (a + 1)),qe_,H',⟨by have:=c1.out;have:=HK2.out;omega⟩,⟨qk_ i⟩,⟨qB_⟩⟩
     refine ig_ H ?_;clear H;intro b3 H
     refine ig_ H ?_;clear H;intro b4 H
     refine ig_ H ?_;clear H;intro b5 H
     refine ig_ H ?_;clear H;intro b6 H
     refine jc_ H ?_ ?_<;>clear H<;>intro Y H
     ·have a2:((rd G ((rd_T72 c a).f0))==(rd G ((rd_T72 c a).f1)))=true:=beq_iff_eq.mpr Y
      have a3:((rd G ((rd_T72 c a).f0)) != (rd G ((rd_T72 c a).f1)))=false:=bne_eq_false_iff_eq.mpr Y
      clear Y;have H' :=am_ H;clear H
      have z:=dt_ a
      have A:=du_ a c.length
      obtain⟨x,B,Z,a0,a1,N⟩:=at_T72 j.out a (ot_ z) (ot_ A)
      rw[←O.out]at N
      cases B
      replace Z:=qx_ HB Z
      replace a0:=qx_ HB a0
      replace a1:=qx_ HB a1
      replace N:=qx_ HB N
      try go_wp2_with (first|((with_reducible refine gd_ 4 ?_);refine by_ 4 (cs:= #[.int .i64 0,.int .i64 0,.int .i64 0,.bool false]) (t:=72) ?_;intro I hg o5 q hb;have d3:=gw_ hg;obtain⟨d4,b7⟩:=qn_ i hg;replace i:=qbl_ i hb;replace HB:=hs_ hb;clear hb hg;obtain⟨r5,r6⟩:=nn_ b7;obtain⟨j8,j9,k0,k1,m4,m5,m6,m7⟩:=bc4_ q)|((with_reducible refine gc_ 66 ?_);refine gl_ (some 27) Try.func66 #[.int .i64 ((rd_T72 c a).f2),.int .i64 0,.int .i64 4] ?_;(with_reducible refine(impl_in.calls ((rd_T72 c a).f2) 0 4 true _ a7.out).mono ?_);rintro e w' ⟨rfl,⟨nd,rfl⟩⟩;refine⟨_,rfl,?_⟩;obtain⟨k2,k3,m8,m9⟩:=bc2_ i)|((with_reducible refine gc_ 67 ?_);refine gl_ (some 32) Try.func67 #[.agg #[.int .i64 d,.slice (some x) c.length l],.int .i64 ((rd_T72 c a).f2)] ?_;(with_reducible refine(impl_labelsAt.calls a9 d _ _ c ((rd_T72 c a).f2) G _ ?_ ?_ b8.out).mono ?_);exact Kd.C_below j.out qB_;exact p.out;rintro e d6 ⟨j1,rfl,ho0,hb⟩;refine⟨_,rfl,?_⟩;have J:=am_ (Kd.R_lower ho0 (below_size qB_));replace i:=qbl_ i hb;replace q:=am_ (blk_below (g:=I) (o:= .cells #[.int .i64 ((rd_T72 c a).f0),.int .i64 ((rd_T72 c a).f1),.int .i64 ((rd_T72 c a).f2),.bool false] 72 (0,0)) (qp_ q) hb);replace HB:=hs_ hb;clear hb ho0))
      replace J:=rd_ J;replace i:=bd_ i;replace q:=bd_ q;replace HB:=hd_ HB
      obtain⟨r7,r8,j2⟩:=Kd.R_slice J.out
      (first|subst j2|(injection j2 with u D v;have E:=u.symm;have F:=v.symm;clear u D v;subst E;subst F))
      have T:=dt_ (((rd_T72 c a).f0))
      have V:=du_ ((rd_T72 c a).f0) G.length
      obtain⟨s,a5,c2⟩:=Kd.at_int (Kd.R_reads' J.out).2.2 ((rd_T72 c a).f0) (ot_ T) (ot_ V)
      cases a5
      have U:=dt_ (((rd_T72 c a).f1))
      have X:=du_ ((rd_T72 c a).f1) G.length
      obtain⟨R,a6,c3⟩:=Kd.at_int (Kd.R_reads' J.out).2.2 ((rd_T72 c a).f1) (ot_ U) (ot_ X)
      obtain rfl:s=R:=(by injection a6)
      refine start_ (n:=16) (S:=fun w' =>w'.cell? ⟨I,0,none⟩=some (.int .i64 ((rd_T72 c a).f0))∧w'.cell? ⟨I,1,none⟩=some (.int .i64 ((rd_T72 c a).f1))∧w'.cell? ⟨I,2,none⟩=some (.int .i64 ((rd_T72 c a).f2))∧w'.cell? ⟨I,3,none⟩=some (.bool false)∧w'.cell? (s.add (((rd_T72 c a).f0)).toNat)=some (.int .i64 (rd G ((rd_T72 c a).f0)))∧w'.cell? (s.add (((rd_T72 c a).f1)).toNat)=some (.int .i64 (rd G ((rd_T72 c a).f1)))) (ds:=[]) (bm 16 0) (by kernel_rfl) rfl (by kernel_rfl) ⟨bl_ q 0,bl_ q 1,bl_ q 2,bl_ q 3,c2,c3⟩ (fun hHeld=> ?_);refine with_tabW impl_WebOk.tab9 impl_WebOk.bits9 (fun HT_ HW_=> ?_)
      generalize d6.drew=o6 at J i q HB c2 c3 hHeld ⊢
      refine pz_ 0 33 16 1 ?_;refine tz6_ 1 34 16 3 ?_;refine pz_ 2 35 16 7 ?_;refine pz_ 3 36 16 15 ?_;refine pz_ 4 37 16 31 ?_;refine pz_ 5 38 16 63 ?_;refine pz_ 9 42 16 575 ?_;refine pz_ 10 43 16 1599 ?_;refine tz6_ 6 39 16 1663 ?_;refine pz_ 7 40 16 1791 ?_;refine tz6_ 8 41 16 2047 ?_;refine tz6_ 11 44 16 4095 ?_;refine pz_ 12 45 16 8191 ?_;refine tz6_ 13 46 16 16383 ?_;refine pz_ 14 47 16 32767 ?_;refine pz_ 15 48 16 65535 ?_
      refine done_ (done_of HT_.out (by kernel_rfl)) ?_
      try go_wp2
      go_roundg a9
      case measure=>have:=c1.out;have:=HK2.out;omega
      case rel=>exact⟨(wrap64 (a + 1)),qe_,H',⟨by have:=c1.out;have:=HK2.out;omega⟩,⟨qk_ i⟩,⟨qB_⟩⟩
     have a2:((rd G ((rd_T72 c a).f0))==(rd G ((rd_T72 c a).f1)))=false:=beq_eq_false_iff_ne.mpr Y
     have a3:((rd G ((rd_T72 c a).f0)) != (rd G ((rd_T72 c a).f1)))=true:=bne_iff_ne.mpr Y
     obtain rfl:=oi_ H
     have z:=dt_ a
     have A:=du_ a c.length
     obtain⟨x,B,Z,a0,a1,N⟩:=at_T72 j.out a (ot_ z) (ot_ A)
     rw[←O.out]at N
     cases B
     replace Z:=qx_ HB Z
     replace a0:=qx_ HB a0
     replace a1:=qx_ HB a1
     replace N:=qx_ HB N
     try go_wp2_with (first|((with_reducible refine gd_ 4 ?_);refine by_ 4 (cs:= #[.int .i64 0,.int .i64 0,.int .i64 0,.bool false]) (t:=72) ?_;intro I hg o7 q hb;have d3:=gw_ hg;obtain⟨d4,b7⟩:=qn_ i hg;replace i:=qbl_ i hb;replace HB:=hs_ hb;clear hb hg;obtain⟨r9,s0⟩:=nn_ b7;obtain⟨k4,k5,k6,k7,n0,n1,n2,n3⟩:=bc4_ q)|((with_reducible refine gc_ 66 ?_);refine gl_ (some 27) Try.func66 #[.int .i64 ((rd_T72 c a).f2),.int .i64 0,.int .i64 4] ?_;(with_reducible refine(impl_in.calls ((rd_T72 c a).f2) 0 4 true _ a7.out).mono ?_);rintro e w' ⟨rfl,⟨nd,rfl⟩⟩;refine⟨_,rfl,?_⟩;obtain⟨k8,k9,n4,n5⟩:=bc2_ i)|((with_reducible refine gc_ 67 ?_);refine gl_ (some 32) Try.func67 #[.agg #[.int .i64 d,.slice (some x) c.length l],.int .i64 ((rd_T72 c a).f2)] ?_;(with_reducible refine(impl_labelsAt.calls a9 d _ _ c ((rd_T72 c a).f2) G _ ?_ ?_ b8.out).mono ?_);exact Kd.C_below j.out qB_;exact p.out;rintro e d7 ⟨j1,rfl,ho0,hb⟩;refine⟨_,rfl,?_⟩;have J:=am_ (Kd.R_lower ho0 (below_size qB_));replace i:=qbl_ i hb;replace q:=am_ (blk_below (g:=I) (o:= .cells #[.int .i64 ((rd_T72 c a).f0),.int .i64 ((rd_T72 c a).f1),.int .i64 ((rd_T72 c a).f2),.bool false] 72 (0,0)) (qp_ q) hb);replace HB:=hs_ hb;clear hb ho0))
     replace J:=rd_ J;replace i:=bd_ i;replace q:=bd_ q;replace HB:=hd_ HB
     obtain⟨s1,s2,j3⟩:=Kd.R_slice J.out
     (first|subst j3|(injection j3 with u D v;have E:=u.symm;have F:=v.symm;clear u D v;subst E;subst F))
     have T:=dt_ (((rd_T72 c a).f0))
     have V:=du_ ((rd_T72 c a).f0) G.length
     obtain⟨s,a5,c2⟩:=Kd.at_int (Kd.R_reads' J.out).2.2 ((rd_T72 c a).f0) (ot_ T) (ot_ V)
     cases a5
     have U:=dt_ (((rd_T72 c a).f1))
     have X:=du_ ((rd_T72 c a).f1) G.length
     obtain⟨R,a6,c3⟩:=Kd.at_int (Kd.R_reads' J.out).2.2 ((rd_T72 c a).f1) (ot_ U) (ot_ X)
     obtain rfl:s=R:=(by injection a6)
     refine start_ (n:=16) (S:=fun w' =>w'.cell? ⟨I,0,none⟩=some (.int .i64 ((rd_T72 c a).f0))∧w'.cell? ⟨I,1,none⟩=some (.int .i64 ((rd_T72 c a).f1))∧w'.cell? ⟨I,2,none⟩=some (.int .i64 ((rd_T72 c a).f2))∧w'.cell? ⟨I,3,none⟩=some (.bool false)∧w'.cell? (s.add (((rd_T72 c a).f0)).toNat)=some (.int .i64 (rd G ((rd_T72 c a).f0)))∧w'.cell? (s.add (((rd_T72 c a).f1)).toNat)=some (.int .i64 (rd G ((rd_T72 c a).f1)))) (ds:=[]) (bm 16 0) (by kernel_rfl) rfl (by kernel_rfl) ⟨bl_ q 0,bl_ q 1,bl_ q 2,bl_ q 3,c2,c3⟩ (fun hHeld=> ?_);refine with_tabW impl_WebOk.tab9 impl_WebOk.bits9 (fun HT_ HW_=> ?_)
     generalize d7.drew=o8 at J i q HB c2 c3 hHeld ⊢
     refine pz_ 0 33 16 1 ?_;refine tz6_ 1 34 16 3 ?_;refine pz_ 2 35 16 7 ?_;refine pz_ 3 36 16 15 ?_;refine pz_ 4 37 16 31 ?_;refine pz_ 5 38 16 63 ?_;refine pz_ 9 42 16 575 ?_;refine pz_ 10 43 16 1599 ?_;refine tz6_ 6 39 16 1663 ?_;refine pz_ 7 40 16 1791 ?_;refine tz6_ 8 41 16 2047 ?_;refine tz6_ 11 44 16 4095 ?_;refine pz_ 12 45 16 8191 ?_;refine tz6_ 13 46 16 16383 ?_;refine pz_ 14 47 16 32767 ?_;refine pz_ 15 48 16 65535 ?_
     refine done_ (done_of HT_.out (by kernel_rfl)) ?_
     try go_wp2
     go_ret
     exact⟨qr_,qB_⟩
end Go.Proofs.Ytbkklafkoegdpaa.QFnTakes

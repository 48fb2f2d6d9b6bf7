import Derived.Test.YtbkklafkoegdpaaQFnTakesx15
namespace Go.Proofs.Ytbkklafkoegdpaa.QFnTakes
open Go.RowKit Go.Proofs.YtbkklafkoegdpaaW.PrintWords Go.Proofs.YtbkklafkoegdpaaW.PrintLast Go.Proofs.YtbkklafkoegdpaaW.PrintMore
set_option maxHeartbeats 8000000
set_option maxRecDepth 100000
set_option linter.unusedVariables false
set_option linter.unusedSimpArgs false
mutual
def spec_WebOk.l0:Nat→Int→Int→List (S72)→Option (Bool)
  |0,_,_,_=>none
  |k + 1,x3,x355000,x355001=>if x3<(x355001.length:Int) then (if 0≤x3 then ((spec_l01In.f ((rd_T72 x355001 x3).f2) 0 4).bind fun t361=>(if t361=true then (spec_WebOk.l0 k (wrap64 (x3 + 1)) x355000 x355001) else (some false))) else (none)) else (spec_WebOk.l1 k x355000 0 x355000 x355001)
def spec_WebOk.l1:Nat→Int→Int→Int→List (S72)→Option (Bool)
  |0,_,_,_,_=>none
  |k + 1,x4,x5,x355000,x355001=>if x5≤4 then ((spec_ForestAt.f k x355000 x355001 x5).bind fun bt362=>(if bt362.2.2=true then (spec_WebOk.l2 k x4 x5 0 x355000 x355001 bt362.1 bt362.2.1) else (some false))) else (some true)
def spec_WebOk.l2:Nat→Int→Int→Int→Int→List (S72)→Int→List (List Int)→Option (Bool)
  |0,_,_,_,_,_,_,_=>none
  |k + 1,x4,x5,x8,x355000,x355001,x368000,x368001=>if x8<(x368001.length:Int) then (if 0≤x8 then ((spec_VertsOf.f k (rd_L4 x368001 x8)).bind fun t369=>(if (t369.length:Int)>1 then (if (t369.length:Int)>x4 then (some false) else (spec_WebOk.l2 k x4 x5 (wrap64 (x8 + 1)) x355000 x355001 x368000 x368001)) else (spec_WebOk.l2 k x4 x5 (wrap64 (x8 + 1)) x355000 x355001 x368000 x368001))) else (none)) else (spec_WebOk.l3 k x4 x5 0 x355000 x355001 x368000 x368001)
def spec_WebOk.l3:Nat→Int→Int→Int→Int→List (S72)→Int→List (List Int)→Option (Bool)
  |0,_,_,_,_,_,_,_=>none
  |k + 1,x4,x5,x10,x355000,x355001,x368000,x368001=>if x10<(x355001.length:Int) then (if 0≤x10 then (if ((rd_T72 x355001 x10).f3=true) then (spec_WebOk.l3 k x4 x5 (wrap64 (x10 + 1)) x355000 x355001 x368000 x368001) else (if ((rd_T72 x355001 x10).f2)=x5 then ((spec_TreeOf.f k x368000 x368001 ((rd_T72 x355001 x10).f0)).bind fun t374=>((spec_TreeOf.f k x368000 x368001 ((rd_T72 x355001 x10).f1)).bind fun t375=>(if t374=t375 then (spec_WebOk.l3 k x4 x5 (wrap64 (x10 + 1)) x355000 x355001 x368000 x368001) else (some false)))) else (spec_WebOk.l3 k x4 x5 (wrap64 (x10 + 1)) x355000 x355001 x368000 x368001))) else (none)) else (spec_WebOk.l1 k (wrap64 (Int.tdiv x4 2)) (wrap64 (x5 + 1)) x355000 x355001)
end
def spec_WebOk.f (k:Nat) (a0_0:Int) (l0_1:List (S72)):Option (Bool):=(spec_GraphOf.f k a0_0 l0_1).bind fun bt355=>((spec_GraphOk.f k bt355.1 bt355.2).bind fun t359=>(if t359=true then (spec_WebOk.l0 k 0 a0_0 l0_1) else (some false)))
def spec_WebOk.T25:Bool × List (List Nat × List Nat):=(true,[([],[]),([0],[0]),([1],[1]),([2],[2]),([3],[3]),([4,3],[3,4]),([3],[3]),([5,6,3],[3,5,6]),([3,7],[3,7]),([8,3],[8]),([9],[9]),([9],[9]),([11,9],[9,11]),([10,12,9,9],[9,10,12]),([9],[9]),([9],[9]),([15,9],[9,15]),([14,16,13,9],[9,14,16]),([13,17,9],[9,13,17]),([9,18],[9,18])])
def spec_WebOk.B25:List Nat:=[0,1,3,7,15,31,15,127,255,511,1023,1023,3071,8191,1023,1023,33791,131071,262143,524287]
theorem spec_WebOk.tab25:rtab .any (opsOf Try.f14 25)=spec_WebOk.T25:=by kernel_rfl
theorem spec_WebOk.bits25:waitsOk spec_WebOk.T25.2 spec_WebOk.B25=true:=by kernel_rfl
theorem spec_WebOk.calls (k:Nat) (m:Int) (F:Option Addr) (v:Nat) (c:List (S72)) (r:Bool) (w:World) (hr0_1:Kd.C k72 w F c.length c) (hc0_1:c.length≤v) (h:spec_WebOk.f k m c=some r):
  Calls Try.prog 14 #[.agg #[.int .i64 m,.slice F c.length v]] w fun e w' =>e= .returned (.bool r)∧Below w.heap.size w w' :=by
 have hu29:=Try.underlying29;have hu39:=Try.underlying39;have hu72:=Try.underlying72
 have E:=am_ hr0_1
 have a1:=am_ hc0_1
 clear hr0_1 hc0_1
 have HB:=am_ (Below.refl w.heap.size w)
 rw[spec_WebOk.f]at h;have H:=h;clear h
 obtain⟨⟨f4,f5⟩,l5,H⟩:=bs_ H;dsimp only at H
 obtain⟨s4,l6,H⟩:=bs_ H
 refine id_ H ?_ ?_<;>clear H<;>rintro rfl H
 ·obtain rfl:=oi_ H
  go_enter Try.func14,Try.ntmps14
  go_wp2_with (first|((with_reducible refine gd_ 1 ?_);refine by_ 1 (cs:= #[.int .i64 m,.slice F c.length v]) (t:=29) ?_;intro d0 hg m9 i hb;have n0:=gw_ hg;replace HB:=hs_ hb;clear hb hg;obtain⟨s5,s6,s7,s8⟩:=bc2_ i)|((with_reducible refine gc_ 47 ?_);refine gl_ (some 13) Try.func47 #[.agg #[.int .i64 m,.slice F c.length v]] ?_;(with_reducible refine(spec_GraphOf.calls k m _ _ c f4 f5 _ ?_ ?_ l5.out).mono ?_);exact qC_ E HB;exact a1.out;rintro e n1 ⟨n2,rfl,ho0,hb⟩;refine⟨_,rfl,?_⟩;have b4:=am_ (Kd.R_lower ho0 (below_size qB_));replace i:=qbl_ i hb;replace HB:=hs_ hb;clear hb;(try clear hb2);clear ho0;obtain⟨j0,j1,j2⟩:=Kd.R_slice b4.out;subst j2)|((with_reducible refine gc_ 56 ?_);refine gl_ (some 14) Try.func56 #[.agg #[.int .i64 f4,.slice j0 f5.length j1]] ?_;(with_reducible refine(spec_GraphOk.calls k f4 _ _ f5 false _ ?_ ?_ l6.out).mono ?_);exact qD_ (Kd.R_reads' b4.out).2.2;exact(Kd.R_reads' b4.out).2.1;rintro e l7 ⟨rfl,hb⟩;refine⟨_,rfl,?_⟩;replace b4:=kb_ b4 hb;replace i:=qbl_ i hb;replace HB:=hs_ hb;clear hb))
  go_ret
  exact⟨qr_,qB_⟩
 have H' :=am_ H;clear H
 go_enter Try.func14,Try.ntmps14
 go_wp2_with (first|((with_reducible refine gd_ 1 ?_);refine by_ 1 (cs:= #[.int .i64 m,.slice F c.length v]) (t:=29) ?_;intro d0 hg s9 i hb;have n0:=gw_ hg;replace HB:=hs_ hb;clear hb hg;obtain⟨h0,h1,h2,h3⟩:=bc2_ i)|((with_reducible refine gc_ 47 ?_);refine gl_ (some 13) Try.func47 #[.agg #[.int .i64 m,.slice F c.length v]] ?_;(with_reducible refine(spec_GraphOf.calls k m _ _ c f4 f5 _ ?_ ?_ l5.out).mono ?_);exact qC_ E HB;exact a1.out;rintro e t0 ⟨n2,rfl,ho0,hb⟩;refine⟨_,rfl,?_⟩;have b4:=am_ (Kd.R_lower ho0 (below_size qB_));replace i:=qbl_ i hb;replace HB:=hs_ hb;clear hb ho0;obtain⟨n3,n4,n5⟩:=Kd.R_slice b4.out;subst n5)|((with_reducible refine gc_ 56 ?_);refine gl_ (some 14) Try.func56 #[.agg #[.int .i64 f4,.slice n3 f5.length n4]] ?_;(with_reducible refine(spec_GraphOk.calls k f4 _ _ f5 true _ ?_ ?_ l6.out).mono ?_);exact qD_ (Kd.R_reads' b4.out).2.2;exact(Kd.R_reads' b4.out).2.1;rintro e t1 ⟨rfl,hb⟩;refine⟨_,rfl,?_⟩;replace b4:=kb_ b4 hb;replace i:=qbl_ i hb;replace HB:=hs_ hb;clear hb))
 go_loopg [3] k (fun kq v3 w' =>∃ (A:Int),v3= .int .i64 A∧Aside0 (spec_WebOk.l0 kq A m c=some r)∧Aside0 (kq≤k)∧Aside0 (w'.heap[d0]? =some (.cells #[.int .i64 m,(.slice F c.length v)] 29 (0,0)))∧Aside0 (Below w.heap.size w w'))
 case atStart=>exact⟨(0),qe_,H',⟨Nat.le_refl _⟩,⟨qk_ i⟩,⟨qB_⟩⟩
 case round=>
  clear H' h0 h1 h2 h3
  obtain⟨A,rfl,HA,HK1,i,HB⟩:=hrel
  cases gk with
  |zero=>exact absurd HA.out (by simp [spec_WebOk.l0])
  |succ i1=>
   have H:=HA.out;clear HA
   simp only[spec_WebOk.l0]at H
   refine ic_ H ?_ ?_<;>clear H<;>intro a6 H
   ·refine ig_ H ?_;clear H;intro a7 H
    obtain⟨t2,g1,H⟩:=bs_ H
    refine ie_ H ?_ ?_<;>clear H<;>rintro rfl H
    ·have H' :=am_ H;clear H
     obtain⟨i2,i3,i4,i5⟩:=bc2_ i
     have Z:=dt_ A
     have a0:=du_ A c.length
     obtain⟨d8,b5,d2,d3,d4,d5⟩:=at_T72 E.out A (ot_ Z) (ot_ a0)
     cases b5
     replace d2:=qx_ HB d2
     replace d3:=qx_ HB d3
     replace d4:=qx_ HB d4
     replace d5:=qx_ HB d5
     go_wp2_with (first|((with_reducible refine gc_ 57 ?_);refine gl_ (some 29) Try.func57 #[.int .i64 ((rd_T72 c A).f2),.int .i64 0,.int .i64 4] ?_;(with_reducible refine(spec_l01In.calls ((rd_T72 c A).f2) 0 4 true _ g1.out).mono ?_);rintro e w' ⟨rfl,⟨nd,rfl⟩⟩;refine⟨_,rfl,?_⟩))
     go_roundg i1
     case measure=>have:=HK1.out;omega
     case rel=>exact⟨(wrap64 (A + 1)),qe_,H',⟨by have:=HK1.out;omega⟩,⟨qk_ i⟩,⟨qB_⟩⟩
    obtain rfl:=oi_ H
    obtain⟨i6,i7,i8,i9⟩:=bc2_ i
    have Z:=dt_ A
    have a0:=du_ A c.length
    obtain⟨d8,b5,d2,d3,d4,d5⟩:=at_T72 E.out A (ot_ Z) (ot_ a0)
    cases b5
    replace d2:=qx_ HB d2
    replace d3:=qx_ HB d3
    replace d4:=qx_ HB d4
    replace d5:=qx_ HB d5
    go_wp2_with (first|((with_reducible refine gc_ 57 ?_);refine gl_ (some 29) Try.func57 #[.int .i64 ((rd_T72 c A).f2),.int .i64 0,.int .i64 4] ?_;(with_reducible refine(spec_l01In.calls ((rd_T72 c A).f2) 0 4 false _ g1.out).mono ?_);rintro e w' ⟨rfl,⟨nd,rfl⟩⟩;refine⟨_,rfl,?_⟩))
    go_ret
    exact⟨qr_,qB_⟩
   have H' :=am_ H;clear H
   obtain⟨j5,j6,j7,j8⟩:=bc2_ i
   go_wp2
   go_loopg [4,5] i1 (fun kq v4 v5 w' =>∃ (T:Int) (B:Int),v4= .int .i64 T∧v5= .int .i64 B∧Aside0 (spec_WebOk.l1 kq T B m c=some r)∧Aside0 (kq≤i1)∧Aside0 (w'.heap[d0]? =some (.cells #[.int .i64 m,(.slice F c.length v)] 29 (0,0)))∧Aside0 (Below w.heap.size w w'))
   case atStart=>exact⟨(m),(0),qe_,qe_,H',⟨Nat.le_refl _⟩,⟨qk_ i⟩,⟨qB_⟩⟩
   case round=>
    clear H' a6 j5 j6 j7 j8
    obtain⟨T,B,rfl,rfl,HA,HK2,i,HB⟩:=hrel
    cases gk with
    |zero=>exact absurd HA.out (by simp [spec_WebOk.l1])
    |succ h7=>
     have H:=HA.out;clear HA
     simp only[spec_WebOk.l1]at H
     refine ib_ H ?_ ?_<;>clear H<;>intro b6 H
     ·obtain rfl:=oi_ H
      go_wp2
      go_ret
      exact⟨qr_,qB_⟩
     obtain⟨⟨Y,z,j4⟩,g6,H⟩:=bs_ H;dsimp only at H
     refine id_ H ?_ ?_<;>clear H<;>rintro rfl H
     ·obtain rfl:=oi_ H
      obtain⟨t3,t4,t5,t6⟩:=bc2_ i
      go_wp2_with (first|((with_reducible refine gc_ 58 ?_);refine gl_ (some 40) Try.func58 #[.agg #[.int .i64 m,.slice F c.length v],.int .i64 B] ?_;(with_reducible refine(spec_ForestAt.calls h7 m _ _ c B Y z false _ ?_ ?_ g6.out).mono ?_);exact qC_ E HB;exact a1.out;rintro e n6 ⟨n7,rfl,ho0,hb⟩;refine⟨_,rfl,?_⟩;have d6:=am_ (Kd.S_lower ho0 (below_size qB_));replace i:=qbl_ i hb;replace HB:=hs_ hb;clear hb ho0)|((with_reducible refine gd_ 6 ?_);refine by_ 6 (cs:= #[.int .i64 0,.slice none 0 0]) (t:=39) ?_;intro a9 hg n8 l hb;have n9:=gw_ hg;obtain⟨f7,d9⟩:=qn_ i hg;replace d6:=am_ (Kd.S_below (qS_ d6) hb);replace i:=qbl_ i hb;replace HB:=hs_ hb;clear hb hg;obtain⟨t7,t8⟩:=nn_ d9;obtain⟨t9,w0,w1,w2⟩:=bc2_ l;obtain⟨w3,w4,o0⟩:=Kd.S_slice d6.out;subst o0))
      go_ret
      exact⟨qr_,qB_⟩
     have H' :=am_ H;clear H
     obtain⟨l9,m0,m1,m2⟩:=bc2_ i
     go_wp2_with (first|((with_reducible refine gc_ 58 ?_);refine gl_ (some 40) Try.func58 #[.agg #[.int .i64 m,.slice F c.length v],.int .i64 B] ?_;(with_reducible refine(spec_ForestAt.calls h7 m _ _ c B Y z true _ ?_ ?_ g6.out).mono ?_);exact qC_ E HB;exact a1.out;rintro e o1 ⟨n7,rfl,ho0,hb⟩;refine⟨_,rfl,?_⟩;have d6:=am_ (Kd.S_lower ho0 (below_size qB_));replace i:=qbl_ i hb;replace HB:=hs_ hb;clear hb ho0)|((with_reducible refine gd_ 6 ?_);refine by_ 6 (cs:= #[.int .i64 0,.slice none 0 0]) (t:=39) ?_;intro a9 hg o2 l hb;have n9:=gw_ hg;obtain⟨f7,d9⟩:=qn_ i hg;replace d6:=am_ (Kd.S_below (qS_ d6) hb);replace i:=qbl_ i hb;replace HB:=hs_ hb;clear hb hg;obtain⟨w5,w6⟩:=nn_ d9;obtain⟨m3,m4,m5,m6⟩:=bc2_ l;obtain⟨a2,a3,o3⟩:=Kd.S_slice d6.out;subst o3))
     go_loopg [8] h7 (fun kq v8 w' =>∃ (j:Int),v8= .int .i64 j∧Aside0 (spec_WebOk.l2 kq T B j m c Y z=some r)∧Aside0 (kq≤h7)∧Aside0 (Kd.S (Kd.slice 3 (Kd.int .i64)) 51 w' w.heap.size (fun _=>True) (.slice a2 z.length a3) z)∧Aside0 (w'.heap[d0]? =some (.cells #[.int .i64 m,(.slice F c.length v)] 29 (0,0)))∧Aside0 (w'.heap[a9]? =some (.cells #[.int .i64 Y,(.slice a2 z.length a3)] 39 (0,0)))∧Aside0 (Below w.heap.size w w'))
     case atStart=>exact⟨(0),qe_,H',⟨Nat.le_refl _⟩,⟨by(with_reducible repeat(first|apply Kd.S_alloc|apply Kd.S_drewN|apply Kd.S_drew));exact Kd.S_mono (Kd.S_far (p:=⟨a9,1,none⟩) (Kd.S_far (p:=⟨a9,0,none⟩) (Kd.S_types d6.out l.out (by decide)) (fun _ hk=>hk.2) (.int .i64 Y)) (fun _ hk=>hk.2) (.slice a2 z.length a3)) (fun _ hk=>trivial)⟩,⟨qf_ i⟩,⟨qp_ l⟩,⟨qB_⟩⟩
     case round=>
      clear H' b6 l9 m0 m3 m4 m1 m2 m5 m6
      obtain⟨j,rfl,HA,HK3,q,i,l,HB⟩:=hrel
      cases gk with
      |zero=>exact absurd HA.out (by simp [spec_WebOk.l2])
      |succ e0=>
       have H:=HA.out;clear HA
       simp only[spec_WebOk.l2]at H
       refine ic_ H ?_ ?_<;>clear H<;>intro e1 H
       ·refine ig_ H ?_;clear H;intro e2 H
        obtain⟨d1,e3,H⟩:=bs_ H
        refine jb_ H ?_ ?_<;>clear H<;>intro b7 H
        ·have b8:decide (1<(d1.length:Int))=false:=decide_eq_false b7
         have b9:decide (1<d1.length)=false:=decide_eq_false (by omega)
         clear b7;have H' :=am_ H;clear H;obtain⟨w7,w8⟩:=nn_ d9
         obtain⟨o5,o6,o7,o8⟩:=bc2_ l
         have x:=dp_ j
         have y:=dl_ j z.length
         obtain⟨c0,A368_0,c368_0,a5,f8,u,hi368_0⟩:=at_L4 (Kd.S_reads' q.out).2.2 j x y
         cases a5
         obtain⟨c1,hce368,hMe368,D⟩:=Kd.S_get q.out [] j x (by first|exact y|exact of_decide_eq_true qa_|(have e_:=(Kd.S_reads' q.out).1;omega))
         obtain⟨ve368_0,rfl,ge368_0⟩:=hMe368
         have hv368_0:=D 0 _ rfl
         rw[Nat.add_zero,show((Kd.slice 3 (Kd.int .i64))).sz=1 from rfl,Nat.mul_one]at hv368_0
         replace hv368_0:=Option.some.inj (hv368_0.symm.trans f8)
         rw[hv368_0]at ge368_0
         have s:=am_ (show Kd.R (Kd.int .i64) 3 _ _ _ _ (rd_L4 z j) from ge368_0)
         clear hv368_0 ge368_0 D hce368
         have g:=am_ hi368_0
         have G:=am_ u
         clear hi368_0 u;replace x:=eq_true x;replace y:=eq_true y
         go_wp2_with (first|((with_reducible refine gc_ 59 ?_);refine gl_ (some 57) Try.func59 #[.slice A368_0 (rd_L4 z j).length c368_0] ?_;(with_reducible refine(spec_VertsOf.calls e0 _ _ (rd_L4 z j) d1 _ ?side1 ?side2 e3.out).mono ?_);(case side1=>repeat(first|exact(by repeat(first|(with_reducible exact g.out)|(with_reducible refine Kd.C_alloc ?_ _)|(with_reducible refine Kd.C_drewN ?_ _)|(with_reducible refine Kd.C_drew ?_)|exact g.out))|(with_reducible refine Kd.C_alloc ?_ _)|(with_reducible refine Kd.C_drewN ?_ _)|(with_reducible refine Kd.C_drew ?_)));(case side2=>exact G.out);rintro e o9 ⟨m7,rfl,ho0,hb⟩;refine⟨_,rfl,?_⟩;have g7:=am_ (Kd.R_lower (Kd.R_new' ho0 (Kd.R_lt (qR_ s))) (below_size qB_));replace q:=am_ (Kd.S_elder' (qS_ q) (Kd.R_base ho0) hb);replace s:=ke_ s ho0 hb;replace i:=qbl_ i hb;replace l:=qbl_ l hb;replace g:=am_ (Kd.C_below (by repeat(first|(with_reducible exact g.out)|(with_reducible refine Kd.C_alloc ?_ _)|(with_reducible refine Kd.C_drewN ?_ _)|(with_reducible refine Kd.C_drew ?_)|exact g.out)) hb);replace HB:=hs_ hb;clear hb ho0;obtain⟨w9,x0,p0⟩:=Kd.R_slice g7.out;subst p0))
         go_roundg e0
         case measure=>have:=HK1.out;have:=HK2.out;have:=HK3.out;omega
         case rel=>exact⟨(wrap64 (j + 1)),qe_,H',⟨by have:=HK1.out;have:=HK2.out;have:=HK3.out;omega⟩,⟨by(with_reducible repeat(first|apply Kd.S_alloc|apply Kd.S_drewN|apply Kd.S_drew));exact Kd.S_mono q.out (fun _ hk=>trivial)⟩,⟨qk_ i⟩,⟨qk_ l⟩,⟨qB_⟩⟩
        have b8:decide (1<(d1.length:Int))=true:=decide_eq_true b7
        have b9:decide (1<d1.length)=true:=decide_eq_true (by omega)
        clear b7
        refine jc_ H ?_ ?_<;>clear H<;>intro c2 H
        ·have c3:decide (T<(d1.length:Int))=true:=decide_eq_true c2
         clear c2
         obtain rfl:=oi_ H
         obtain⟨x1,x2⟩:=nn_ d9
         obtain⟨p1,p2,p3,p4⟩:=bc2_ l
         have x:=dp_ j
         have y:=dl_ j z.length
         obtain⟨c0,A368_0,c368_0,a5,f8,u,hi368_0⟩:=at_L4 (Kd.S_reads' q.out).2.2 j x y
         cases a5
         obtain⟨c1,hce368,hMe368,D⟩:=Kd.S_get q.out [] j x (by first|exact y|exact of_decide_eq_true qa_|(have e_:=(Kd.S_reads' q.out).1;omega))
         obtain⟨ve368_0,rfl,ge368_0⟩:=hMe368
         have hv368_0:=D 0 _ rfl
         rw[Nat.add_zero,show((Kd.slice 3 (Kd.int .i64))).sz=1 from rfl,Nat.mul_one]at hv368_0
         replace hv368_0:=Option.some.inj (hv368_0.symm.trans f8)
         rw[hv368_0]at ge368_0
         have s:=am_ (show Kd.R (Kd.int .i64) 3 _ _ _ _ (rd_L4 z j) from ge368_0)
         clear hv368_0 ge368_0 D hce368
         have g:=am_ hi368_0
         have G:=am_ u
         clear hi368_0 u;replace x:=eq_true x;replace y:=eq_true y
         go_wp2_with (first|((with_reducible refine gc_ 59 ?_);refine gl_ (some 57) Try.func59 #[.slice A368_0 (rd_L4 z j).length c368_0] ?_;(with_reducible refine(spec_VertsOf.calls e0 _ _ (rd_L4 z j) d1 _ ?side1 ?side2 e3.out).mono ?_);(case side1=>repeat(first|exact(by repeat(first|(with_reducible exact g.out)|(with_reducible refine Kd.C_alloc ?_ _)|(with_reducible refine Kd.C_drewN ?_ _)|(with_reducible refine Kd.C_drew ?_)|exact g.out))|(with_reducible refine Kd.C_alloc ?_ _)|(with_reducible refine Kd.C_drewN ?_ _)|(with_reducible refine Kd.C_drew ?_)));(case side2=>exact G.out);rintro e p5 ⟨m7,rfl,ho0,hb⟩;refine⟨_,rfl,?_⟩;have g7:=am_ (Kd.R_lower (Kd.R_new' ho0 (Kd.R_lt (qR_ s))) (below_size qB_));replace q:=am_ (Kd.S_elder' (qS_ q) (Kd.R_base ho0) hb);replace s:=ke_ s ho0 hb;replace i:=qbl_ i hb;replace l:=qbl_ l hb;replace g:=am_ (Kd.C_below (by repeat(first|(with_reducible exact g.out)|(with_reducible refine Kd.C_alloc ?_ _)|(with_reducible refine Kd.C_drewN ?_ _)|(with_reducible refine Kd.C_drew ?_)|exact g.out)) hb);replace HB:=hs_ hb;clear hb ho0;obtain⟨x3,x4,p6⟩:=Kd.R_slice g7.out;subst p6))
         go_ret
         exact⟨qr_,qB_⟩
        have c3:decide (T<(d1.length:Int))=false:=decide_eq_false c2
        clear c2;have H' :=am_ H;clear H;obtain⟨x5,x6⟩:=nn_ d9
        obtain⟨p7,p8,p9,q0⟩:=bc2_ l
        have x:=dp_ j
        have y:=dl_ j z.length
        obtain⟨c0,A368_0,c368_0,a5,f8,u,hi368_0⟩:=at_L4 (Kd.S_reads' q.out).2.2 j x y
        cases a5
        obtain⟨c1,hce368,hMe368,D⟩:=Kd.S_get q.out [] j x (by first|exact y|exact of_decide_eq_true qa_|(have e_:=(Kd.S_reads' q.out).1;omega))
        obtain⟨ve368_0,rfl,ge368_0⟩:=hMe368
        have hv368_0:=D 0 _ rfl
        rw[Nat.add_zero,show((Kd.slice 3 (Kd.int .i64))).sz=1 from rfl,Nat.mul_one]at hv368_0
        replace hv368_0:=Option.some.inj (hv368_0.symm.trans f8)
        rw[hv368_0]at ge368_0
        have s:=am_ (show Kd.R (Kd.int .i64) 3 _ _ _ _ (rd_L4 z j) from ge368_0)
        clear hv368_0 ge368_0 D hce368
        have g:=am_ hi368_0
        have G:=am_ u
        clear hi368_0 u;replace x:=eq_true x;replace y:=eq_true y
        go_wp2_with (first|((with_reducible refine gc_ 59 ?_);refine gl_ (some 57) Try.func59 #[.slice A368_0 (rd_L4 z j).length c368_0] ?_;(with_reducible refine(spec_VertsOf.calls e0 _ _ (rd_L4 z j) d1 _ ?side1 ?side2 e3.out).mono ?_);(case side1=>repeat(first|exact(by repeat(first|(with_reducible exact g.out)|(with_reducible refine Kd.C_alloc ?_ _)|(with_reducible refine Kd.C_drewN ?_ _)|(with_reducible refine Kd.C_drew ?_)|exact g.out))|(with_reducible refine Kd.C_alloc ?_ _)|(with_reducible refine Kd.C_drewN ?_ _)|(with_reducible refine Kd.C_drew ?_)));(case side2=>exact G.out);rintro e q1 ⟨m7,rfl,ho0,hb⟩;refine⟨_,rfl,?_⟩;have g7:=am_ (Kd.R_lower (Kd.R_new' ho0 (Kd.R_lt (qR_ s))) (below_size qB_));replace q:=am_ (Kd.S_elder' (qS_ q) (Kd.R_base ho0) hb);replace s:=ke_ s ho0 hb;replace i:=qbl_ i hb;replace l:=qbl_ l hb;replace g:=am_ (Kd.C_below (by repeat(first|(with_reducible exact g.out)|(with_reducible refine Kd.C_alloc ?_ _)|(with_reducible refine Kd.C_drewN ?_ _)|(with_reducible refine Kd.C_drew ?_)|exact g.out)) hb);replace HB:=hs_ hb;clear hb ho0;obtain⟨x7,x8,q2⟩:=Kd.R_slice g7.out;subst q2))
        go_roundg e0
        case measure=>have:=HK1.out;have:=HK2.out;have:=HK3.out;omega
        case rel=>exact⟨(wrap64 (j + 1)),qe_,H',⟨by have:=HK1.out;have:=HK2.out;have:=HK3.out;omega⟩,⟨by(with_reducible repeat(first|apply Kd.S_alloc|apply Kd.S_drewN|apply Kd.S_drew));exact Kd.S_mono q.out (fun _ hk=>trivial)⟩,⟨qk_ i⟩,⟨qk_ l⟩,⟨qB_⟩⟩
       have H' :=am_ H;clear H;obtain⟨x9,y0⟩:=nn_ d9
       obtain⟨q3,q4,q5,q6⟩:=bc2_ l
       go_wp2
       go_loopg [10] e0 (fun kq v10 w' =>∃ (a:Int),v10= .int .i64 a∧Aside0 (spec_WebOk.l3 kq T B a m c Y z=some r)∧Aside0 (kq≤e0)∧Aside0 (Kd.S (Kd.slice 3 (Kd.int .i64)) 51 w' w.heap.size (fun _=>True) (.slice a2 z.length a3) z)∧Aside0 (w'.heap[d0]? =some (.cells #[.int .i64 m,(.slice F c.length v)] 29 (0,0)))∧Aside0 (w'.heap[a9]? =some (.cells #[.int .i64 Y,(.slice a2 z.length a3)] 39 (0,0)))∧Aside0 (Below w.heap.size w w'))
       case atStart=>exact⟨(0),qe_,H',⟨Nat.le_refl _⟩,⟨by(with_reducible repeat(first|apply Kd.S_alloc|apply Kd.S_drewN|apply Kd.S_drew));first|exact q.out|(have h_:=q.out;simp only[own_slice]at h_ ⊢;exact h_)⟩,⟨qk_ i⟩,⟨qk_ l⟩,⟨qB_⟩⟩
       case round=>
        clear H' e1 q3 q4 q5 q6
        obtain⟨a,rfl,HA,HK4,q,i,l,HB⟩:=hrel
        cases gk with
        |zero=>exact absurd HA.out (by simp [spec_WebOk.l3])
        |succ d7=>
         have H:=HA.out;clear HA
         simp only[spec_WebOk.l3]at H
         refine ib_ H ?_ ?_<;>clear H<;>intro k2 H
         ·have H' :=am_ H;clear H;obtain⟨y3,y4⟩:=nn_ f7
          obtain⟨y5,y6,y7,y8⟩:=bc2_ i
          go_wp2
          go_roundg d7
          case measure=>have:=HK1.out;have:=HK2.out;have:=HK3.out;have:=HK4.out;omega
          case rel=>exact⟨(wrap64 (Int.tdiv T 2)),(wrap64 (B + 1)),qe_,qe_,H',⟨by have:=HK1.out;have:=HK2.out;have:=HK3.out;have:=HK4.out;omega⟩,⟨qk_ i⟩,⟨qB_⟩⟩
         refine ig_ H ?_;clear H;intro k3 H
         generalize c4:((rd_T72 c a).f3)=m8 at H;have a4:=am_ c4.symm;clear c4
         refine ie_ H ?_ ?_<;>clear H<;>rintro rfl H
         ·have H' :=am_ H;clear H;obtain⟨u0,u1⟩:=nn_ f7
          obtain⟨y9,z0,z1,z2⟩:=bc2_ i
          have U:=dt_ a
          have V:=du_ a c.length
          obtain⟨I,X,c5,c6,c7,a8⟩:=at_T72 E.out a (ot_ U) (ot_ V)
          rw[←a4.out]at a8
          cases X
          replace c5:=qx_ HB c5
          replace c6:=qx_ HB c6
          replace c7:=qx_ HB c7
          replace a8:=qx_ HB a8
          try go_wp2_with (first|((with_reducible refine gd_ 11 ?_);refine by_ 11 (cs:= #[.int .i64 0,.int .i64 0,.int .i64 0,.bool false]) (t:=72) ?_;intro d hg b0 o hb;have k4:=gw_ hg;obtain⟨k5,e4⟩:=qn_ i hg;obtain⟨k6,e5⟩:=qn_ l hg;replace q:=am_ (Kd.S_below (qS_ q) hb);replace i:=qbl_ i hb;replace l:=qbl_ l hb;replace HB:=hs_ hb;clear hb hg;obtain⟨u2,u3⟩:=nn_ e4;obtain⟨u4,u5⟩:=nn_ e5;obtain⟨z3,z4,z5,z6,z7,z8,z9,A0⟩:=bc4_ o))
          have J:Aside0 (Kd.S (Kd.slice 3 (Kd.int .i64)) 51 ((((b0.setCell ⟨d,0,none⟩ (.int .i64 ((rd_T72 c a).f0))).setCell ⟨d,1,none⟩ (.int .i64 ((rd_T72 c a).f1))).setCell ⟨d,2,none⟩ (.int .i64 ((rd_T72 c a).f2))).setCell ⟨d,3,none⟩ (.bool true)) w.heap.size (fun _=>True) (.slice a2 z.length a3) z):=⟨by(with_reducible repeat(first|apply Kd.S_alloc|apply Kd.S_drewN|apply Kd.S_drew));exact Kd.S_mono (Kd.S_far (p:=⟨d,3,none⟩) (Kd.S_far (p:=⟨d,2,none⟩) (Kd.S_far (p:=⟨d,1,none⟩) (Kd.S_far (p:=⟨d,0,none⟩) (Kd.S_types q.out o.out (by decide)) (fun _ hk=>hk.2) (.int .i64 ((rd_T72 c a).f0))) (fun _ hk=>hk.2) (.int .i64 ((rd_T72 c a).f1))) (fun _ hk=>hk.2) (.int .i64 ((rd_T72 c a).f2))) (fun _ hk=>hk.2) (.bool true)) (fun _ hk=>trivial)⟩
          have L:Aside0 (((((b0.setCell ⟨d,0,none⟩ (.int .i64 ((rd_T72 c a).f0))).setCell ⟨d,1,none⟩ (.int .i64 ((rd_T72 c a).f1))).setCell ⟨d,2,none⟩ (.int .i64 ((rd_T72 c a).f2))).setCell ⟨d,3,none⟩ (.bool true)).heap[d0]? =some (.cells #[.int .i64 m,.slice (some I) c.length v] 29 (0,0))):=⟨qf_ i⟩
          have M:Aside0 (((((b0.setCell ⟨d,0,none⟩ (.int .i64 ((rd_T72 c a).f0))).setCell ⟨d,1,none⟩ (.int .i64 ((rd_T72 c a).f1))).setCell ⟨d,2,none⟩ (.int .i64 ((rd_T72 c a).f2))).setCell ⟨d,3,none⟩ (.bool true)).heap[a9]? =some (.cells #[.int .i64 Y,.slice a2 z.length a3] 39 (0,0))):=⟨qf_ l⟩
          have N:Aside0 (((((b0.setCell ⟨d,0,none⟩ (.int .i64 ((rd_T72 c a).f0))).setCell ⟨d,1,none⟩ (.int .i64 ((rd_T72 c a).f1))).setCell ⟨d,2,none⟩ (.int .i64 ((rd_T72 c a).f2))).setCell ⟨d,3,none⟩ (.bool true)).heap[d]? =some (.cells #[.int .i64 ((rd_T72 c a).f0),.int .i64 ((rd_T72 c a).f1),.int .i64 ((rd_T72 c a).f2),.bool true] 72 (0,0))):=⟨qp_ o⟩
          have O:Aside0 (Below w.heap.size w ((((b0.setCell ⟨d,0,none⟩ (.int .i64 ((rd_T72 c a).f0))).setCell ⟨d,1,none⟩ (.int .i64 ((rd_T72 c a).f1))).setCell ⟨d,2,none⟩ (.int .i64 ((rd_T72 c a).f2))).setCell ⟨d,3,none⟩ (.bool true))):=⟨qB_⟩
          clear q i l o HB
          generalize ((((b0.setCell ⟨d,0,none⟩ (.int .i64 ((rd_T72 c a).f0))).setCell ⟨d,1,none⟩ (.int .i64 ((rd_T72 c a).f1))).setCell ⟨d,2,none⟩ (.int .i64 ((rd_T72 c a).f2))).setCell ⟨d,3,none⟩ (.bool true))=k7 at J L M N O ⊢
          have q:=J;have i:=L;have l:=M;have o:=N;have HB:=O;clear J L M N O
          replace q:=am_ (Kd.S_drew q.out);replace i:=bd_ i;replace l:=bd_ l;replace o:=bd_ o;replace HB:=hd_ HB
          refine start_ (n:=20) (S:=fun w' =>w'.cell? ⟨d,0,none⟩=some (.int .i64 ((rd_T72 c a).f0))∧w'.cell? ⟨d,1,none⟩=some (.int .i64 ((rd_T72 c a).f1))∧w'.cell? ⟨d,2,none⟩=some (.int .i64 ((rd_T72 c a).f2))∧w'.cell? ⟨d,3,none⟩=some (.bool true)) (ds:=[]) (bm 20 0) (by kernel_rfl) rfl (by kernel_rfl) ⟨bl_ o 0,bl_ o 1,bl_ o 2,bl_ o 3⟩ (fun hHeld=> ?_);refine with_tabW spec_WebOk.tab25 spec_WebOk.bits25 (fun HT_ HW_=> ?_)
          generalize k7.drew=r6 at q i l o HB hHeld ⊢
          refine pz_ 0 78 20 1 ?_;refine tz4_ 1 79 20 3 ?_;refine pz_ 2 80 20 7 ?_;refine pz_ 3 81 20 15 ?_
          refine pu_ 4 82 20 31 ?_
          refine pu_ 5 83 20 63 ?_
          refine pu_ 6 84 20 127 ?_
          refine pu_ 7 85 20 255 ?_
          refine pz_ 8 86 20 511 ?_;refine pz_ 9 87 20 1023 ?_
          refine pu_ 10 88 20 2047 ?_
          refine pu_ 11 89 20 4095 ?_
          refine pu_ 12 90 20 8191 ?_
          refine pu_ 13 91 20 16383 ?_
          refine pu_ 14 92 20 32767 ?_
          refine pu_ 15 93 20 65535 ?_
          refine pu_ 16 94 20 131071 ?_
          refine pu_ 17 95 20 262143 ?_
          refine pu_ 18 96 20 524287 ?_
          refine pz_ 19 97 20 1048575 ?_
          refine done_ (done_of HT_.out (by kernel_rfl)) ?_
          try go_wp2
          go_roundg d7
          case measure=>have:=HK1.out;have:=HK2.out;have:=HK3.out;have:=HK4.out;omega
          case rel=>exact⟨(wrap64 (a + 1)),qe_,H',⟨by have:=HK1.out;have:=HK2.out;have:=HK3.out;have:=HK4.out;omega⟩,⟨by(with_reducible repeat(first|apply Kd.S_alloc|apply Kd.S_drewN|apply Kd.S_drew));first|exact q.out|(have h_:=q.out;simp only[own_slice]at h_ ⊢;exact h_)⟩,⟨qk_ i⟩,⟨qk_ l⟩,⟨qB_⟩⟩
         refine jb_ H ?_ ?_<;>clear H<;>intro c8 H
         ·have e6:(((rd_T72 c a).f2)==B)=false:=beq_eq_false_iff_ne.mpr c8
          have e7:(((rd_T72 c a).f2) != B)=true:=bne_iff_ne.mpr c8
          have H' :=am_ H;clear H;obtain⟨u6,u7⟩:=nn_ f7
          obtain⟨A1,A2,A3,A4⟩:=bc2_ i
          have U:=dt_ a
          have V:=du_ a c.length
          obtain⟨I,X,c5,c6,c7,a8⟩:=at_T72 E.out a (ot_ U) (ot_ V)
          rw[←a4.out]at a8
          cases X
          replace c5:=qx_ HB c5
          replace c6:=qx_ HB c6
          replace c7:=qx_ HB c7
          replace a8:=qx_ HB a8
          try go_wp2_with (first|((with_reducible refine gd_ 11 ?_);refine by_ 11 (cs:= #[.int .i64 0,.int .i64 0,.int .i64 0,.bool false]) (t:=72) ?_;intro d hg b1 o hb;have k4:=gw_ hg;obtain⟨k5,e4⟩:=qn_ i hg;obtain⟨k6,e5⟩:=qn_ l hg;replace q:=am_ (Kd.S_below (qS_ q) hb);replace i:=qbl_ i hb;replace l:=qbl_ l hb;replace HB:=hs_ hb;clear hb hg;obtain⟨u8,u9⟩:=nn_ e4;obtain⟨v0,v1⟩:=nn_ e5;obtain⟨A5,A6,A7,A8,A9,B0,B2,B7⟩:=bc4_ o))
          have J:Aside0 (Kd.S (Kd.slice 3 (Kd.int .i64)) 51 ((((b1.setCell ⟨d,0,none⟩ (.int .i64 ((rd_T72 c a).f0))).setCell ⟨d,1,none⟩ (.int .i64 ((rd_T72 c a).f1))).setCell ⟨d,2,none⟩ (.int .i64 ((rd_T72 c a).f2))).setCell ⟨d,3,none⟩ (.bool false)) w.heap.size (fun _=>True) (.slice a2 z.length a3) z):=⟨by(with_reducible repeat(first|apply Kd.S_alloc|apply Kd.S_drewN|apply Kd.S_drew));exact Kd.S_mono (Kd.S_far (p:=⟨d,3,none⟩) (Kd.S_far (p:=⟨d,2,none⟩) (Kd.S_far (p:=⟨d,1,none⟩) (Kd.S_far (p:=⟨d,0,none⟩) (Kd.S_types q.out o.out (by decide)) (fun _ hk=>hk.2) (.int .i64 ((rd_T72 c a).f0))) (fun _ hk=>hk.2) (.int .i64 ((rd_T72 c a).f1))) (fun _ hk=>hk.2) (.int .i64 ((rd_T72 c a).f2))) (fun _ hk=>hk.2) (.bool false)) (fun _ hk=>trivial)⟩
          have L:Aside0 (((((b1.setCell ⟨d,0,none⟩ (.int .i64 ((rd_T72 c a).f0))).setCell ⟨d,1,none⟩ (.int .i64 ((rd_T72 c a).f1))).setCell ⟨d,2,none⟩ (.int .i64 ((rd_T72 c a).f2))).setCell ⟨d,3,none⟩ (.bool false)).heap[d0]? =some (.cells #[.int .i64 m,.slice (some I) c.length v] 29 (0,0))):=⟨qf_ i⟩
          have M:Aside0 (((((b1.setCell ⟨d,0,none⟩ (.int .i64 ((rd_T72 c a).f0))).setCell ⟨d,1,none⟩ (.int .i64 ((rd_T72 c a).f1))).setCell ⟨d,2,none⟩ (.int .i64 ((rd_T72 c a).f2))).setCell ⟨d,3,none⟩ (.bool false)).heap[a9]? =some (.cells #[.int .i64 Y,.slice a2 z.length a3] 39 (0,0))):=⟨qf_ l⟩
          have N:Aside0 (((((b1.setCell ⟨d,0,none⟩ (.int .i64 ((rd_T72 c a).f0))).setCell ⟨d,1,none⟩ (.int .i64 ((rd_T72 c a).f1))).setCell ⟨d,2,none⟩ (.int .i64 ((rd_T72 c a).f2))).setCell ⟨d,3,none⟩ (.bool false)).heap[d]? =some (.cells #[.int .i64 ((rd_T72 c a).f0),.int .i64 ((rd_T72 c a).f1),.int .i64 ((rd_T72 c a).f2),.bool false] 72 (0,0))):=⟨qp_ o⟩
          have O:Aside0 (Below w.heap.size w ((((b1.setCell ⟨d,0,none⟩ (.int .i64 ((rd_T72 c a).f0))).setCell ⟨d,1,none⟩ (.int .i64 ((rd_T72 c a).f1))).setCell ⟨d,2,none⟩ (.int .i64 ((rd_T72 c a).f2))).setCell ⟨d,3,none⟩ (.bool false))):=⟨qB_⟩
          clear q i l o HB
          generalize ((((b1.setCell ⟨d,0,none⟩ (.int .i64 ((rd_T72 c a).f0))).setCell ⟨d,1,none⟩ (.int .i64 ((rd_T72 c a).f1))).setCell ⟨d,2,none⟩ (.int .i64 ((rd_T72 c a).f2))).setCell ⟨d,3,none⟩ (.bool false))=k8 at J L M N O ⊢
          have q:=J;have i:=L;have l:=M;have o:=N;have HB:=O;clear J L M N O
          replace q:=am_ (Kd.S_drew q.out);replace i:=bd_ i;replace l:=bd_ l;replace o:=bd_ o;replace HB:=hd_ HB
          refine start_ (n:=20) (S:=fun w' =>w'.cell? ⟨d,0,none⟩=some (.int .i64 ((rd_T72 c a).f0))∧w'.cell? ⟨d,1,none⟩=some (.int .i64 ((rd_T72 c a).f1))∧w'.cell? ⟨d,2,none⟩=some (.int .i64 ((rd_T72 c a).f2))∧w'.cell? ⟨d,3,none⟩=some (.bool false)) (ds:=[]) (bm 20 0) (by kernel_rfl) rfl (by kernel_rfl) ⟨bl_ o 0,bl_ o 1,bl_ o 2,bl_ o 3⟩ (fun hHeld=> ?_);refine with_tabW spec_WebOk.tab25 spec_WebOk.bits25 (fun HT_ HW_=> ?_)
          generalize k8.drew=r7 at q i l o HB hHeld ⊢
          refine pz_ 0 78 20 1 ?_;refine tz4_ 1 79 20 3 ?_;refine pz_ 2 80 20 7 ?_;refine pz_ 3 81 20 15 ?_;refine pz_ 4 82 20 31 ?_;refine pz_ 6 84 20 95 ?_;refine tz4_ 5 83 20 127 ?_;refine pz_ 7 85 20 255 ?_;refine pz_ 8 86 20 511 ?_;refine pz_ 9 87 20 1023 ?_
          refine pu_ 10 88 20 2047 ?_
          refine pu_ 11 89 20 4095 ?_
          refine pu_ 12 90 20 8191 ?_
          refine pu_ 13 91 20 16383 ?_
          refine pu_ 14 92 20 32767 ?_
          refine pu_ 15 93 20 65535 ?_
          refine pu_ 16 94 20 131071 ?_
          refine pu_ 17 95 20 262143 ?_
          refine pu_ 18 96 20 524287 ?_
          refine pz_ 19 97 20 1048575 ?_
          refine done_ (done_of HT_.out (by kernel_rfl)) ?_
          try go_wp2
          go_roundg d7
          case measure=>have:=HK1.out;have:=HK2.out;have:=HK3.out;have:=HK4.out;omega
          case rel=>exact⟨(wrap64 (a + 1)),qe_,H',⟨by have:=HK1.out;have:=HK2.out;have:=HK3.out;have:=HK4.out;omega⟩,⟨by(with_reducible repeat(first|apply Kd.S_alloc|apply Kd.S_drewN|apply Kd.S_drew));first|exact q.out|(have h_:=q.out;simp only[own_slice]at h_ ⊢;exact h_)⟩,⟨qk_ i⟩,⟨qk_ l⟩,⟨qB_⟩⟩
         have e6:(((rd_T72 c a).f2)==B)=true:=beq_iff_eq.mpr c8
         have e7:(((rd_T72 c a).f2) != B)=false:=bne_eq_false_iff_eq.mpr c8
         clear c8
         obtain⟨f9,g8,H⟩:=bs_ H
         obtain⟨g0,g9,H⟩:=bs_ H
         refine jc_ H ?_ ?_<;>clear H<;>intro c9 H
         ·have e8:(f9==g0)=true:=beq_iff_eq.mpr c9
          have e9:(f9 != g0)=false:=bne_eq_false_iff_eq.mpr c9
          clear c9;have H' :=am_ H;clear H;obtain⟨v2,v6⟩:=nn_ f7
          obtain⟨C0,C1,C2,C3⟩:=bc2_ i
          have U:=dt_ a
          have V:=du_ a c.length
          obtain⟨I,X,c5,c6,c7,a8⟩:=at_T72 E.out a (ot_ U) (ot_ V)
          rw[←a4.out]at a8
          cases X
          replace c5:=qx_ HB c5
          replace c6:=qx_ HB c6
          replace c7:=qx_ HB c7
          replace a8:=qx_ HB a8
          try go_wp2_with (first|((with_reducible refine gd_ 11 ?_);refine by_ 11 (cs:= #[.int .i64 0,.int .i64 0,.int .i64 0,.bool false]) (t:=72) ?_;intro d hg b2 o hb;have k4:=gw_ hg;obtain⟨k5,e4⟩:=qn_ i hg;obtain⟨k6,e5⟩:=qn_ l hg;replace q:=am_ (Kd.S_below (qS_ q) hb);replace i:=qbl_ i hb;replace l:=qbl_ l hb;replace HB:=hs_ hb;clear hb hg;obtain⟨v7,v9⟩:=nn_ e4;obtain⟨C4,C5⟩:=nn_ e5;obtain⟨C6,C7,C8,C9,D0,D1,D2,D3⟩:=bc4_ o))
          have J:Aside0 (Kd.S (Kd.slice 3 (Kd.int .i64)) 51 ((((b2.setCell ⟨d,0,none⟩ (.int .i64 ((rd_T72 c a).f0))).setCell ⟨d,1,none⟩ (.int .i64 ((rd_T72 c a).f1))).setCell ⟨d,2,none⟩ (.int .i64 ((rd_T72 c a).f2))).setCell ⟨d,3,none⟩ (.bool false)) w.heap.size (fun _=>True) (.slice a2 z.length a3) z):=⟨by(with_reducible repeat(first|apply Kd.S_alloc|apply Kd.S_drewN|apply Kd.S_drew));exact Kd.S_mono (Kd.S_far (p:=⟨d,3,none⟩) (Kd.S_far (p:=⟨d,2,none⟩) (Kd.S_far (p:=⟨d,1,none⟩) (Kd.S_far (p:=⟨d,0,none⟩) (Kd.S_types q.out o.out (by decide)) (fun _ hk=>hk.2) (.int .i64 ((rd_T72 c a).f0))) (fun _ hk=>hk.2) (.int .i64 ((rd_T72 c a).f1))) (fun _ hk=>hk.2) (.int .i64 ((rd_T72 c a).f2))) (fun _ hk=>hk.2) (.bool false)) (fun _ hk=>trivial)⟩
          have L:Aside0 (((((b2.setCell ⟨d,0,none⟩ (.int .i64 ((rd_T72 c a).f0))).setCell ⟨d,1,none⟩ (.int .i64 ((rd_T72 c a).f1))).setCell ⟨d,2,none⟩ (.int .i64 ((rd_T72 c a).f2))).setCell ⟨d,3,none⟩ (.bool false)).heap[d0]? =some (.cells #[.int .i64 m,.slice (some I) c.length v] 29 (0,0))):=⟨qf_ i⟩
          have M:Aside0 (((((b2.setCell ⟨d,0,none⟩ (.int .i64 ((rd_T72 c a).f0))).setCell ⟨d,1,none⟩ (.int .i64 ((rd_T72 c a).f1))).setCell ⟨d,2,none⟩ (.int .i64 ((rd_T72 c a).f2))).setCell ⟨d,3,none⟩ (.bool false)).heap[a9]? =some (.cells #[.int .i64 Y,.slice a2 z.length a3] 39 (0,0))):=⟨qf_ l⟩
          have N:Aside0 (((((b2.setCell ⟨d,0,none⟩ (.int .i64 ((rd_T72 c a).f0))).setCell ⟨d,1,none⟩ (.int .i64 ((rd_T72 c a).f1))).setCell ⟨d,2,none⟩ (.int .i64 ((rd_T72 c a).f2))).setCell ⟨d,3,none⟩ (.bool false)).heap[d]? =some (.cells #[.int .i64 ((rd_T72 c a).f0),.int .i64 ((rd_T72 c a).f1),.int .i64 ((rd_T72 c a).f2),.bool false] 72 (0,0))):=⟨qp_ o⟩
          have O:Aside0 (Below w.heap.size w ((((b2.setCell ⟨d,0,none⟩ (.int .i64 ((rd_T72 c a).f0))).setCell ⟨d,1,none⟩ (.int .i64 ((rd_T72 c a).f1))).setCell ⟨d,2,none⟩ (.int .i64 ((rd_T72 c a).f2))).setCell ⟨d,3,none⟩ (.bool false))):=⟨qB_⟩
          clear q i l o HB
          generalize ((((b2.setCell ⟨d,0,none⟩ (.int .i64 ((rd_T72 c a).f0))).setCell ⟨d,1,none⟩ (.int .i64 ((rd_T72 c a).f1))).setCell ⟨d,2,none⟩ (.int .i64 ((rd_T72 c a).f2))).setCell ⟨d,3,none⟩ (.bool false))=k9 at J L M N O ⊢
          have q:=J;have i:=L;have l:=M;have o:=N;have HB:=O;clear J L M N O
          replace q:=am_ (Kd.S_drew q.out);replace i:=bd_ i;replace l:=bd_ l;replace o:=bd_ o;replace HB:=hd_ HB
          refine start_ (n:=20) (S:=fun w' =>w'.cell? ⟨d,0,none⟩=some (.int .i64 ((rd_T72 c a).f0))∧w'.cell? ⟨d,1,none⟩=some (.int .i64 ((rd_T72 c a).f1))∧w'.cell? ⟨d,2,none⟩=some (.int .i64 ((rd_T72 c a).f2))∧w'.cell? ⟨d,3,none⟩=some (.bool false)∧w'.cell? ⟨a9,0,none⟩=some (.int .i64 Y)∧w'.cell? ⟨a9,1,none⟩=some (.slice a2 z.length a3)) (ds:=[]) (bm 20 0) (by kernel_rfl) rfl (by kernel_rfl) ⟨bl_ o 0,bl_ o 1,bl_ o 2,bl_ o 3,bl_ l 0,bl_ l 1⟩ (fun hHeld=> ?_);refine with_tabW spec_WebOk.tab25 spec_WebOk.bits25 (fun HT_ HW_=> ?_)
          generalize k9.drew=r8 at q i l o HB hHeld ⊢
          refine pz_ 0 78 20 1 ?_;refine tz6_ 1 79 20 3 ?_;refine pz_ 2 80 20 7 ?_;refine pz_ 3 81 20 15 ?_;refine pz_ 4 82 20 31 ?_;refine pz_ 6 84 20 95 ?_;refine tz6_ 5 83 20 127 ?_;refine pz_ 7 85 20 255 ?_;refine pz_ 8 86 20 511 ?_;refine pz_ 9 87 20 1023 ?_;refine pz_ 11 89 20 3071 ?_;refine pz_ 15 93 20 35839 ?_;refine tz6_ 10 88 20 36863 ?_;refine tz6_ 12 90 20 40959 ?_;refine tz6_ 14 92 20 57343 ?_;refine tz6_ 16 94 20 122879 ?_
          refine o1_ 13 (some 91) 20 131071 (fun K hK=> ?_)
          refine gs_ Try.func60 #[.agg #[.int .i64 Y,.slice a2 z.length a3],.int .i64 ((rd_T72 c a).f0)] ?_
          with_reducible refine(spec_TreeOf.calls d7 Y _ _ z ((rd_T72 c a).f0) f9 _ ?side1 ?side2 g8.out).mono ?_
          (case side1=>exact qD_ (Kd.S_reads' q.out).2.2)
          (case side2=>exact(Kd.S_reads' q.out).2.1)
          rintro e r9 ⟨rfl,hb⟩
          refine⟨_,rfl,?_⟩
          replace q:=am_ (Kd.S_below (qS_ q) hb);replace i:=qbl_ i hb;replace l:=qbl_ l hb;replace o:=qbl_ o hb;replace HB:=hs_ hb;clear hb
          refine hK.out _ _ ⟨bl_ o 0,bl_ o 1,bl_ o 2,bl_ o 3,bl_ l 0,bl_ l 1⟩ (fun hHeld=> ?_)
          clear hK K
          refine nm_ 91 ?_
          refine o1_ 17 (some 95) 20 262143 (fun K hK=> ?_)
          refine gs_ Try.func60 #[.agg #[.int .i64 Y,.slice a2 z.length a3],.int .i64 ((rd_T72 c a).f1)] ?_
          with_reducible refine(spec_TreeOf.calls d7 Y _ _ z ((rd_T72 c a).f1) g0 _ ?side1 ?side2 g9.out).mono ?_
          (case side1=>exact qD_ (Kd.S_reads' q.out).2.2)
          (case side2=>exact(Kd.S_reads' q.out).2.1)
          rintro e s0 ⟨rfl,hb⟩
          refine⟨_,rfl,?_⟩
          replace q:=am_ (Kd.S_below (qS_ q) hb);replace i:=qbl_ i hb;replace l:=qbl_ l hb;replace o:=qbl_ o hb;replace HB:=hs_ hb;clear hb
          refine hK.out _ _ ⟨bl_ o 0,bl_ o 1,bl_ o 2,bl_ o 3,bl_ l 0,bl_ l 1⟩ (fun hHeld=> ?_)
          clear hK K
          refine nm_ 95 ?_
          refine pz_ 18 96 20 524287 ?_;refine pz_ 19 97 20 1048575 ?_
          refine done_ (done_of HT_.out (by kernel_rfl)) ?_
          try go_wp2
          go_roundg d7
          case measure=>have:=HK1.out;have:=HK2.out;have:=HK3.out;have:=HK4.out;omega
          case rel=>exact⟨(wrap64 (a + 1)),qe_,H',⟨by have:=HK1.out;have:=HK2.out;have:=HK3.out;have:=HK4.out;omega⟩,⟨by(with_reducible repeat(first|apply Kd.S_alloc|apply Kd.S_drewN|apply Kd.S_drew));first|exact q.out|(have h_:=q.out;simp only[own_slice]at h_ ⊢;exact h_)⟩,⟨qk_ i⟩,⟨qk_ l⟩,⟨qB_⟩⟩
         have e8:(f9==g0)=false:=beq_eq_false_iff_ne.mpr c9
         have e9:(f9 != g0)=true:=bne_iff_ne.mpr c9
         obtain rfl:=oi_ H
         obtain⟨D4,D5⟩:=nn_ f7
         obtain⟨D6,D7,D8,D9⟩:=bc2_ i
         have U:=dt_ a
         have V:=du_ a c.length
         obtain⟨I,X,c5,c6,c7,a8⟩:=at_T72 E.out a (ot_ U) (ot_ V)
         rw[←a4.out]at a8
         cases X
         replace c5:=qx_ HB c5
         replace c6:=qx_ HB c6
         replace c7:=qx_ HB c7
         replace a8:=qx_ HB a8
         try go_wp2_with (first|((with_reducible refine gd_ 11 ?_);refine by_ 11 (cs:= #[.int .i64 0,.int .i64 0,.int .i64 0,.bool false]) (t:=72) ?_;intro d hg b3 o hb;have k4:=gw_ hg;obtain⟨k5,e4⟩:=qn_ i hg;obtain⟨k6,e5⟩:=qn_ l hg;replace q:=am_ (Kd.S_below (qS_ q) hb);replace i:=qbl_ i hb;replace l:=qbl_ l hb;replace HB:=hs_ hb;clear hb hg;obtain⟨E0,E1⟩:=nn_ e4;obtain⟨E2,E3⟩:=nn_ e5;obtain⟨E4,E5,E6,E7,E8,E9,F0,F1⟩:=bc4_ o))
         have J:Aside0 (Kd.S (Kd.slice 3 (Kd.int .i64)) 51 ((((b3.setCell ⟨d,0,none⟩ (.int .i64 ((rd_T72 c a).f0))).setCell ⟨d,1,none⟩ (.int .i64 ((rd_T72 c a).f1))).setCell ⟨d,2,none⟩ (.int .i64 ((rd_T72 c a).f2))).setCell ⟨d,3,none⟩ (.bool false)) w.heap.size (fun _=>True) (.slice a2 z.length a3) z):=⟨by(with_reducible repeat(first|apply Kd.S_alloc|apply Kd.S_drewN|apply Kd.S_drew));exact Kd.S_mono (Kd.S_far (p:=⟨d,3,none⟩) (Kd.S_far (p:=⟨d,2,none⟩) (Kd.S_far (p:=⟨d,1,none⟩) (Kd.S_far (p:=⟨d,0,none⟩) (Kd.S_types q.out o.out (by decide)) (fun _ hk=>hk.2) (.int .i64 ((rd_T72 c a).f0))) (fun _ hk=>hk.2) (.int .i64 ((rd_T72 c a).f1))) (fun _ hk=>hk.2) (.int .i64 ((rd_T72 c a).f2))) (fun _ hk=>hk.2) (.bool false)) (fun _ hk=>trivial)⟩
         have L:Aside0 (((((b3.setCell ⟨d,0,none⟩ (.int .i64 ((rd_T72 c a).f0))).setCell ⟨d,1,none⟩ (.int .i64 ((rd_T72 c a).f1))).setCell ⟨d,2,none⟩ (.int .i64 ((rd_T72 c a).f2))).setCell ⟨d,3,none⟩ (.bool false)).heap[d0]? =some (.cells #[.int .i64 m,.slice (some I) c.length v] 29 (0,0))):=⟨qf_ i⟩
         have M:Aside0 (((((b3.setCell ⟨d,0,none⟩ (.int .i64 ((rd_T72 c a).f0))).setCell ⟨d,1,none⟩ (.int .i64 ((rd_T72 c a).f1))).setCell ⟨d,2,none⟩ (.int .i64 ((rd_T72 c a).f2))).setCell ⟨d,3,none⟩ (.bool false)).heap[a9]? =some (.cells #[.int .i64 Y,.slice a2 z.length a3] 39 (0,0))):=⟨qf_ l⟩
         have N:Aside0 (((((b3.setCell ⟨d,0,none⟩ (.int .i64 ((rd_T72 c a).f0))).setCell ⟨d,1,none⟩ (.int .i64 ((rd_T72 c a).f1))).setCell ⟨d,2,none⟩ (.int .i64 ((rd_T72 c a).f2))).setCell ⟨d,3,none⟩ (.bool false)).heap[d]? =some (.cells #[.int .i64 ((rd_T72 c a).f0),.int .i64 ((rd_T72 c a).f1),.int .i64 ((rd_T72 c a).f2),.bool false] 72 (0,0))):=⟨qp_ o⟩
         have O:Aside0 (Below w.heap.size w ((((b3.setCell ⟨d,0,none⟩ (.int .i64 ((rd_T72 c a).f0))).setCell ⟨d,1,none⟩ (.int .i64 ((rd_T72 c a).f1))).setCell ⟨d,2,none⟩ (.int .i64 ((rd_T72 c a).f2))).setCell ⟨d,3,none⟩ (.bool false))):=⟨qB_⟩
         clear q i l o HB
         generalize ((((b3.setCell ⟨d,0,none⟩ (.int .i64 ((rd_T72 c a).f0))).setCell ⟨d,1,none⟩ (.int .i64 ((rd_T72 c a).f1))).setCell ⟨d,2,none⟩ (.int .i64 ((rd_T72 c a).f2))).setCell ⟨d,3,none⟩ (.bool false))=l4 at J L M N O ⊢
         have q:=J;have i:=L;have l:=M;have o:=N;have HB:=O;clear J L M N O
         replace q:=am_ (Kd.S_drew q.out);replace i:=bd_ i;replace l:=bd_ l;replace o:=bd_ o;replace HB:=hd_ HB
         refine start_ (n:=20) (S:=fun w' =>w'.cell? ⟨d,0,none⟩=some (.int .i64 ((rd_T72 c a).f0))∧w'.cell? ⟨d,1,none⟩=some (.int .i64 ((rd_T72 c a).f1))∧w'.cell? ⟨d,2,none⟩=some (.int .i64 ((rd_T72 c a).f2))∧w'.cell? ⟨d,3,none⟩=some (.bool false)∧w'.cell? ⟨a9,0,none⟩=some (.int .i64 Y)∧w'.cell? ⟨a9,1,none⟩=some (.slice a2 z.length a3)) (ds:=[]) (bm 20 0) (by kernel_rfl) rfl (by kernel_rfl) ⟨bl_ o 0,bl_ o 1,bl_ o 2,bl_ o 3,bl_ l 0,bl_ l 1⟩ (fun hHeld=> ?_);refine with_tabW spec_WebOk.tab25 spec_WebOk.bits25 (fun HT_ HW_=> ?_)
         generalize l4.drew=s1 at q i l o HB hHeld ⊢
         refine pz_ 0 78 20 1 ?_;refine tz6_ 1 79 20 3 ?_;refine pz_ 2 80 20 7 ?_;refine pz_ 3 81 20 15 ?_;refine pz_ 4 82 20 31 ?_;refine pz_ 6 84 20 95 ?_;refine tz6_ 5 83 20 127 ?_;refine pz_ 7 85 20 255 ?_;refine pz_ 8 86 20 511 ?_;refine pz_ 9 87 20 1023 ?_;refine pz_ 11 89 20 3071 ?_;refine pz_ 15 93 20 35839 ?_;refine tz6_ 10 88 20 36863 ?_;refine tz6_ 12 90 20 40959 ?_;refine tz6_ 14 92 20 57343 ?_;refine tz6_ 16 94 20 122879 ?_
         refine o1_ 13 (some 91) 20 131071 (fun K hK=> ?_)
         refine gs_ Try.func60 #[.agg #[.int .i64 Y,.slice a2 z.length a3],.int .i64 ((rd_T72 c a).f0)] ?_
         with_reducible refine(spec_TreeOf.calls d7 Y _ _ z ((rd_T72 c a).f0) f9 _ ?side1 ?side2 g8.out).mono ?_
         (case side1=>exact qD_ (Kd.S_reads' q.out).2.2)
         (case side2=>exact(Kd.S_reads' q.out).2.1)
         rintro e s2 ⟨rfl,hb⟩
         refine⟨_,rfl,?_⟩
         replace q:=am_ (Kd.S_below (qS_ q) hb);replace i:=qbl_ i hb;replace l:=qbl_ l hb;replace o:=qbl_ o hb;replace HB:=hs_ hb;clear hb
         refine hK.out _ _ ⟨bl_ o 0,bl_ o 1,bl_ o 2,bl_ o 3,bl_ l 0,bl_ l 1⟩ (fun hHeld=> ?_)
         clear hK K
         refine nm_ 91 ?_
         refine o1_ 17 (some 95) 20 262143 (fun K hK=> ?_)
         refine gs_ Try.func60 #[.agg #[.int .i64 Y,.slice a2 z.length a3],.int .i64 ((rd_T72 c a).f1)] ?_
         with_reducible refine(spec_TreeOf.calls d7 Y _ _ z ((rd_T72 c a).f1) g0 _ ?side1 ?side2 g9.out).mono ?_
         (case side1=>exact qD_ (Kd.S_reads' q.out).2.2)
         (case side2=>exact(Kd.S_reads' q.out).2.1)
         rintro e s3 ⟨rfl,hb⟩
         refine⟨_,rfl,?_⟩
         replace q:=am_ (Kd.S_below (qS_ q) hb);replace i:=qbl_ i hb;replace l:=qbl_ l hb;replace o:=qbl_ o hb;replace HB:=hs_ hb;clear hb
         refine hK.out _ _ ⟨bl_ o 0,bl_ o 1,bl_ o 2,bl_ o 3,bl_ l 0,bl_ l 1⟩ (fun hHeld=> ?_)
         clear hK K
         refine nm_ 95 ?_
         refine pz_ 18 96 20 524287 ?_;refine pz_ 19 97 20 1048575 ?_
         refine done_ (done_of HT_.out (by kernel_rfl)) ?_
         try go_wp2
         go_ret
         exact⟨qr_,qB_⟩
end Go.Proofs.Ytbkklafkoegdpaa.QFnTakes

import Derived.Test.YtbkklafkoegdpaaQFnTakesx16
import Derived.Test.YtbkklafkoegdpaaQFnTakesx17
import Derived.Test.YtbkklafkoegdpaaQFnTakesx18
namespace Go.Proofs.Ytbkklafkoegdpaa.QFnTakes
open Go.RowKit Go.Proofs.YtbkklafkoegdpaaW.PrintWords Go.Proofs.YtbkklafkoegdpaaW.PrintLast Go.Proofs.YtbkklafkoegdpaaW.PrintMore
set_option maxHeartbeats 8000000
set_option maxRecDepth 100000
set_option linter.unusedVariables false
set_option linter.unusedSimpArgs false
mutual
def spec_WebTake.j0:Nat→Bool→Int→List (S72)→Int→Int→Option (Int × (List (S72)) × Int × Int × Bool × Bool)
  |0,_,_,_,_,_=>none
  |k + 1,x23,x418000,x418001,x419000,x419001=>if x23=true then (some (0,([]:List (S72)),0,0,false,false)) else (spec_WebTake.l0 k 0 x418000 x418001 x419000 x419001 x418000 ([]:List (S72)) 0 0 0 false)
def spec_WebTake.l0:Nat→Int→Int→List (S72)→Int→Int→Int→List (S72)→Int→Int→Int→Bool→Option (Int × (List (S72)) × Int × Int × Bool × Bool)
  |0,_,_,_,_,_,_,_,_,_,_,_=>none
  |k + 1,x10,x418000,x418001,x419000,x419001,x428000,x428001,x429000,x429001,x429002,x429003=>if x10<(x418001.length:Int) then (if 0≤x10 then (if ((rd_T72 x418001 x10).f0)=x419000 then (if ((rd_T72 x418001 x10).f1)=x419001 then (spec_WebTake.l0 k (wrap64 (x10 + 1)) x418000 x418001 x419000 x419001 x428000 x428001 ((rd_T72 x418001 x10).f0) ((rd_T72 x418001 x10).f1) ((rd_T72 x418001 x10).f2) ((rd_T72 x418001 x10).f3)) else (if x428001.length<4398046511104 then (spec_WebTake.l0 k (wrap64 (x10 + 1)) x418000 x418001 x419000 x419001 x428000 (x428001++[(⟨(rd_T72 x418001 x10).f0,(rd_T72 x418001 x10).f1,(rd_T72 x418001 x10).f2,(rd_T72 x418001 x10).f3⟩:S72)]) x429000 x429001 x429002 x429003) else (none))) else (if x428001.length<4398046511104 then (spec_WebTake.l0 k (wrap64 (x10 + 1)) x418000 x418001 x419000 x419001 x428000 (x428001++[(⟨(rd_T72 x418001 x10).f0,(rd_T72 x418001 x10).f1,(rd_T72 x418001 x10).f2,(rd_T72 x418001 x10).f3⟩:S72)]) x429000 x429001 x429002 x429003) else (none))) else (none)) else (if x429003=true then (spec_WebTake.l1 k x429002 x419000 x419001 x428000 x428001) else (some (x428000,x428001,0,0,false,true)))
def spec_WebTake.l1:Nat→Int→Int→Int→Int→List (S72)→Option (Int × (List (S72)) × Int × Int × Bool × Bool)
  |0,_,_,_,_,_=>none
  |k + 1,x11,x419000,x419001,x428000,x428001=>if x11≥0 then ((spec_l08Search.f k x428000 x428001 x419000 x419001 x11).bind fun bt440=>(if bt440.2≥0 then (if 0≤bt440.2 then (if bt440.2<(bt440.1.length:Int) then (some (x428000,bt440.1,(rd_T72 bt440.1 bt440.2).f0,(rd_T72 bt440.1 bt440.2).f1,true,true)) else (none)) else (none)) else (spec_WebTake.l1 k (wrap64 (x11 - 1)) x419000 x419001 x428000 bt440.1))) else (some (x428000,x428001,0,0,false,true))
end
def spec_WebTake.f (k:Nat) (a0_0:Int) (l0_1:List (S72)) (a1_0:Int) (a1_1:Int):Option (Int × (List (S72)) × Int × Int × Bool × Bool):=(spec_WebOk.f k a0_0 l0_1).bind fun t421=>(if t421=true then ((spec_GraphOf.f k a0_0 l0_1).bind fun bt422=>((spec_HasEdge.f k bt422.1 bt422.2 a1_0 a1_1).bind fun t426=>(spec_WebTake.j0 k (!t426) a0_0 l0_1 a1_0 a1_1))) else (spec_WebTake.j0 k true a0_0 l0_1 a1_0 a1_1))
def spec_WebTake.T1:Bool × List (List Nat × List Nat):=(true,[([],[]),([0],[0]),([1],[1]),([2,1],[2]),([3],[3]),([4,3,3],[3,4]),([3],[3]),([5,6,5,3],[3,5,6]),([7,3],[3,7]),([3,8],[3,8])])
def spec_WebTake.B1:List Nat:=[0,1,3,7,15,31,15,127,255,511]
theorem spec_WebTake.tab1:rtab .any (opsOf Try.f41 1)=spec_WebTake.T1:=by kernel_rfl
theorem spec_WebTake.bits1:waitsOk spec_WebTake.T1.2 spec_WebTake.B1=true:=by kernel_rfl
def spec_WebTake.T8:Bool × List (List Nat × List Nat):=(true,[([],[]),([0],[0]),([],[]),([1,2],[1,2]),([3],[3]),([4],[4]),([],[]),([6],[6]),([5,7],[5,7]),([8],[8]),([9],[9]),([10,9],[9,10]),([9],[9]),([11,12,9],[9,11,12]),([13,9],[9,13]),([14,9],[9,14]),([9],[9]),([16,9],[9,16]),([15,17,9],[9,15,17]),([9,18],[9,18])])
def spec_WebTake.B8:List Nat:=[0,1,0,7,15,31,0,64,255,511,1023,2047,1023,8191,16383,32767,1023,66559,262143,524287]
theorem spec_WebTake.tab8:rtab .any (opsOf Try.f41 8)=spec_WebTake.T8:=by kernel_rfl
theorem spec_WebTake.bits8:waitsOk spec_WebTake.T8.2 spec_WebTake.B8=true:=by kernel_rfl
def spec_WebTake.T10:Bool × List (List Nat × List Nat):=(true,[([],[]),([0],[0]),([],[]),([2],[2]),([],[]),([3,4],[3,4]),([5],[5]),([6],[6]),([1,7],[1,7]),([0,1,2,3,4,5,6,7,8],[]),([9,8,8,0,1,2,3,4,5,6,7,8],[8,9])])
def spec_WebTake.B10:List Nat:=[0,1,0,4,0,28,60,124,255,511,1023]
theorem spec_WebTake.tab10:rtab .any (opsOf Try.f41 10)=spec_WebTake.T10:=by kernel_rfl
theorem spec_WebTake.bits10:waitsOk spec_WebTake.T10.2 spec_WebTake.B10=true:=by kernel_rfl
def spec_WebTake.T19:Bool × List (List Nat × List Nat):=(true,[([],[]),([],[]),([],[]),([1,2],[1,2]),([3],[3]),([4],[4]),([],[]),([],[]),([6,7],[6,7]),([8],[8]),([9],[9]),([5,10],[5,10]),([0,0],[0]),([11,12,0,1,2,3,4,5,6,7,8,9,10,11,12],[11]),([13,0,1,2,3,4,5,6,7,8,9,10,11,12,13],[]),([14,0,1,2,3,4,5,6,7,8,9,10,11,12,13,14],[])])
def spec_WebTake.B19:List Nat:=[0,0,0,6,14,30,0,0,192,448,960,2046,1,8191,16383,32767]
theorem spec_WebTake.tab19:rtab .any (opsOf Try.f41 19)=spec_WebTake.T19:=by kernel_rfl
theorem spec_WebTake.bits19:waitsOk spec_WebTake.T19.2 spec_WebTake.B19=true:=by kernel_rfl
theorem spec_WebTake.calls (k:Nat) (j:Int) (F:Option Addr) (A:Nat) (c:List (S72)) (m:Int) (q:Int) (h8:Int) (h9:List (S72)) (i0:Int) (i1:Int) (i2:Bool) (i3:Bool) (w:World) (hr0_1:Kd.C k72 w F c.length c) (hc0_1:c.length≤A) (h:spec_WebTake.f k j c m q=some (h8,h9,i0,i1,i2,i3)):
  Calls Try.prog 41 #[.agg #[.int .i64 j,.slice F c.length A],.agg #[.int .i64 m,.int .i64 q]] w fun e w' =>∃ i9:Value,e= .returned (.tuple #[.agg #[.int .i64 h8,i9],.agg #[.int .i64 i0,.int .i64 i1],.bool i2,.bool i3])∧Kd.R k72 72 w' w.heap.size (fun _=>True) i9 h9∧Below w.heap.size w w' :=by
 have hu29:=Try.underlying29;have hu43:=Try.underlying43;have hu72:=Try.underlying72
 have D:=am_ hr0_1
 have a4:=am_ hc0_1
 clear hr0_1 hc0_1
 have HB:=am_ (Below.refl w.heap.size w)
 have H:((spec_WebOk.f k j c).bind fun s2=>(if s2=true then ((spec_GraphOf.f k j c).bind fun s3=>((spec_HasEdge.f k s3.1 s3.2 m q).bind fun n4=>(spec_WebTake.j0 k (!n4) j c m q))) else (spec_WebTake.j0 k true j c m q)))=some (h8,h9,i0,i1,i2,i3):=h
 clear h
 have p3:=am_ H
 clear H
 go_enter Try.func41,Try.ntmps41
 go_upto_region 1 with (first|((with_reducible refine gd_ 2 ?_);refine by_ 2 (cs:= #[.int .i64 j,.slice F c.length A]) (t:=29) ?_;intro V hg M5 l hb;have M6:=gw_ hg;replace HB:=hs_ hb;clear hb hg)|((with_reducible refine gd_ 3 ?_);refine by_ 3 (cs:= #[.int .i64 m,.int .i64 q]) (t:=43) ?_;intro a3 hg M7 s hb;have M8:=gw_ hg;obtain⟨i4,s4⟩:=qn_ l hg;replace l:=qbl_ l hb;replace HB:=hs_ hb;clear hb hg)|((with_reducible refine gd_ 4 ?_);refine by_ 4 (cs:= #[.int .i64 0,.slice none 0 0]) (t:=29) ?_;intro I hg M9 u hb;have N0:=gw_ hg;obtain⟨d7,n5⟩:=qn_ l hg;obtain⟨n6,j5⟩:=qn_ s hg;replace l:=qbl_ l hb;replace s:=qbl_ s hb;replace HB:=hs_ hb;clear hb hg)|((with_reducible refine gd_ 5 ?_);refine by_ 5 (cs:= #[.int .i64 0,.int .i64 0]) (t:=43) ?_;intro J hg s5 x hb;have N1:=gw_ hg;obtain⟨d8,n7⟩:=qn_ l hg;obtain⟨n8,j6⟩:=qn_ s hg;obtain⟨e5,n9⟩:=qn_ u hg;replace l:=qbl_ l hb;replace s:=qbl_ s hb;replace u:=qbl_ u hb;replace HB:=hs_ hb;clear hb hg))
 (try simp only[Act.put,sA_,sB_,sC_])
 go_cut [23] (fun v23 wc=>∃ (kq:Nat) (a5:Bool),v23= .bool a5∧Aside0 (spec_WebTake.j0 kq a5 j c m q=some (h8,h9,i0,i1,i2,i3))∧Aside0 (kq≤k)∧Aside0 (wc.heap[V]? =some (.cells #[.int .i64 j,(.slice F c.length A)] 29 (0,0)))∧Aside0 (wc.heap[a3]? =some (.cells #[.int .i64 m,.int .i64 q] 43 (0,0)))∧Aside0 (wc.heap[I]? =some (.cells #[.int .i64 0,(.slice none 0 0)] 29 (0,0)))∧Aside0 (wc.heap[J]? =some (.cells #[.int .i64 0,.int .i64 0] 43 (0,0)))∧Aside0 (Below w.heap.size w wc))
 case first=>
  have H:=p3.out;clear p3
  obtain⟨s2,s6,H⟩:=bs_ H
  refine id_ H ?_ ?_<;>clear H<;>rintro rfl H
  ·have H' :=am_ H;clear H
   try go_wp2
   replace l:=bd_ l;replace s:=bd_ s;replace u:=bd_ u;replace x:=bd_ x;replace HB:=hd_ HB
   refine start_ (n:=10) (S:=fun w' =>w'.cell? ⟨V,0,none⟩=some (.int .i64 j)∧w'.cell? ⟨V,1,none⟩=some (.slice F c.length A)) (ds:=[]) (bm 10 0) (by kernel_rfl) rfl (by kernel_rfl) ⟨bl_ l 0,bl_ l 1⟩ (fun hHeld=> ?_);refine with_tabW spec_WebTake.tab1 spec_WebTake.bits1 (fun HT_ HW_=> ?_)
   generalize s5.drew=y1 at l s u x HB hHeld ⊢
   refine tz2_ 0 14 10 1 ?_
   refine o1_ 1 (some 15) 10 3 (fun K hK=> ?_)
   refine gs_ Try.func14 #[.agg #[.int .i64 j,.slice F c.length A]] ?_
   with_reducible refine(spec_WebOk.calls k j _ _ c false _ ?side1 ?side2 s6.out).mono ?_
   (case side1=>exact qC_ D HB)
   (case side2=>exact a4.out)
   rintro e y2 ⟨rfl,hb⟩
   refine⟨_,rfl,?_⟩
   replace l:=qbl_ l hb;replace s:=qbl_ s hb;replace u:=qbl_ u hb;replace x:=qbl_ x hb;replace HB:=hs_ hb;clear hb
   refine hK.out _ _ ⟨bl_ l 0,bl_ l 1⟩ (fun hHeld=> ?_)
   clear hK K
   refine nm_ 15 ?_
   refine pz_ 2 16 10 7 ?_;refine pz_ 3 17 10 15 ?_
   refine pu_ 4 18 10 31 ?_
   refine pu_ 5 19 10 63 ?_
   refine pu_ 6 20 10 127 ?_
   refine pu_ 7 21 10 255 ?_
   refine pu_ 8 22 10 511 ?_
   refine pz_ 9 23 10 1023 ?_
   refine done_ (done_of HT_.out (by kernel_rfl)) ?_
   try go_wp2
   go_meet
   case rel=>exact⟨_,(true),qe_,H',⟨qo_⟩,⟨qk_ l⟩,⟨qk_ s⟩,⟨qk_ u⟩,⟨qk_ x⟩,⟨qB_⟩⟩
  obtain⟨⟨p4,p5⟩,p6,H⟩:=bs_ H;dsimp only at H
  obtain⟨n4,p7,H⟩:=bs_ H
  have H' :=am_ H;clear H
  try go_wp2
  replace l:=bd_ l;replace s:=bd_ s;replace u:=bd_ u;replace x:=bd_ x;replace HB:=hd_ HB
  refine start_ (n:=10) (S:=fun w' =>w'.cell? ⟨V,0,none⟩=some (.int .i64 j)∧w'.cell? ⟨V,1,none⟩=some (.slice F c.length A)∧w'.cell? ⟨a3,0,none⟩=some (.int .i64 m)∧w'.cell? ⟨a3,1,none⟩=some (.int .i64 q)) (ds:=[]) (bm 10 0) (by kernel_rfl) rfl (by kernel_rfl) ⟨bl_ l 0,bl_ l 1,bl_ s 0,bl_ s 1⟩ (fun hHeld=> ?_);refine with_tabW spec_WebTake.tab1 spec_WebTake.bits1 (fun HT_ HW_=> ?_)
  generalize s5.drew=y3 at l s u x HB hHeld ⊢
  refine tz4_ 0 14 10 1 ?_
  refine o1_ 1 (some 15) 10 3 (fun K hK=> ?_)
  refine gs_ Try.func14 #[.agg #[.int .i64 j,.slice F c.length A]] ?_
  with_reducible refine(spec_WebOk.calls k j _ _ c true _ ?side1 ?side2 s6.out).mono ?_
  (case side1=>exact qC_ D HB)
  (case side2=>exact a4.out)
  rintro e y4 ⟨rfl,hb⟩
  refine⟨_,rfl,?_⟩
  replace l:=qbl_ l hb;replace s:=qbl_ s hb;replace u:=qbl_ u hb;replace x:=qbl_ x hb;replace HB:=hs_ hb;clear hb
  refine hK.out _ _ ⟨bl_ l 0,bl_ l 1,bl_ s 0,bl_ s 1⟩ (fun hHeld=> ?_)
  clear hK K
  refine nm_ 15 ?_
  refine pz_ 2 16 10 7 ?_;refine pz_ 3 17 10 15 ?_;refine tz4_ 4 18 10 31 ?_;refine tz4_ 6 20 10 95 ?_
  refine o1_ 5 (some 19) 10 127 (fun K hK=> ?_)
  refine gs_ Try.func47 #[.agg #[.int .i64 j,.slice F c.length A]] ?_
  with_reducible refine(spec_GraphOf.calls k j _ _ c p4 p5 _ ?side1 ?side2 p6.out).mono ?_
  (case side1=>exact qC_ D HB)
  (case side2=>exact a4.out)
  rintro e y5 ⟨y6,rfl,ho0,hb⟩
  refine⟨_,rfl,?_⟩
  have j7:=am_ (Kd.R_lower (Kd.R_newB (Kd.R_newB ho0 (qk_ s)) (qk_ x)) (below_size qB_));replace l:=qbl_ l hb;replace s:=qbl_ s hb;replace u:=qbl_ u hb;replace x:=qbl_ x hb;replace HB:=hs_ hb;clear hb ho0
  obtain⟨y7,y8,s7⟩:=Kd.R_slice j7.out
  (first|subst s7|(injection s7 with a0 b9 a1;have c0:=a0.symm;have c1:=a1.symm;clear a0 b9 a1;subst c0;subst c1))
  refine hK.out _ _ ⟨bl_ l 0,bl_ l 1,bl_ s 0,bl_ s 1⟩ (fun hHeld=> ?_)
  clear hK K
  refine nm_ 19 ?_
  refine o1_ 7 (some 21) 10 255 (fun K hK=> ?_)
  refine gs_ Try.func46 #[.agg #[.int .i64 p4,.slice y7 p5.length y8],.agg #[.int .i64 m,.int .i64 q]] ?_
  with_reducible refine(spec_HasEdge.calls k p4 _ _ p5 m q n4 _ ?side1 ?side2 p7.out).mono ?_
  (case side1=>exact qD_ (Kd.R_reads' j7.out).2.2)
  (case side2=>exact(Kd.R_reads' j7.out).2.1)
  rintro e y9 ⟨rfl,hb⟩
  refine⟨_,rfl,?_⟩
  replace j7:=kb_ j7 hb;replace l:=qbl_ l hb;replace s:=qbl_ s hb;replace u:=qbl_ u hb;replace x:=qbl_ x hb;replace HB:=hs_ hb;clear hb
  refine hK.out _ _ ⟨bl_ l 0,bl_ l 1,bl_ s 0,bl_ s 1⟩ (fun hHeld=> ?_)
  clear hK K
  refine nm_ 21 ?_
  refine pz_ 8 22 10 511 ?_;refine pz_ 9 23 10 1023 ?_
  refine done_ (done_of HT_.out (by kernel_rfl)) ?_
  try go_wp2
  go_meet
  case rel=>exact⟨_,(!n4),qe_,H',⟨qo_⟩,⟨qk_ l⟩,⟨qk_ s⟩,⟨qk_ u⟩,⟨qk_ x⟩,⟨qB_⟩⟩
 case rest=>
  clear p3
  obtain⟨kq,a5,rfl,HA,d9,l,s,u,x,HB⟩:=hcut
  cases kq with
  |zero=>exact absurd HA.out (by simp [spec_WebTake.j0])
  |succ kj2=>
   have H:=HA.out;clear HA
   simp only[spec_WebTake.j0]at H
   refine ie_ H ?_ ?_<;>clear H<;>rintro rfl H
   ·simp only[Option.some.injEq,Prod.mk.injEq]at H
    obtain⟨rfl,rfl,rfl,rfl,rfl,rfl⟩:=H
    obtain⟨N2,T8⟩:=nn_ n5;obtain⟨T9,N3⟩:=nn_ j5;obtain⟨N4,N5⟩:=nn_ e5
    obtain⟨z1,z2,z3,z4⟩:=bc2_ u
    obtain⟨N6,N7⟩:=nn_ n7;obtain⟨N8,N9⟩:=nn_ j6
    obtain⟨z5,z6,z7,z8⟩:=bc2_ x
    go_wp2
    refine bodyPost_ret (results_list (rs:=[.cell 4 29,.cell 5 43,.tmp 6,.tmp 7]) rfl (by simp) (.cell I 29 #[.int .i64 0,.slice none 0 0] (0,0) _ rfl (qp_ u) Try.underlying29 rfl (by kernel_rfl) (.cell J 43 #[.int .i64 0,.int .i64 0] (0,0) _ rfl (qp_ x) Try.underlying43 rfl (by kernel_rfl) (.tmp (.tmp .nil))))) rfl ?_
    exact⟨_,qr_,by first|exact Kd.R_nil _ _ _ _ _|exact Kd.N_nil _ _ _ _ _|exact Kd.V_nil _ _ _ _ _|exact Kd.Q_nil _ _ _ _ _|exact Kd.S_nil _ _ _ _ _,qB_⟩
   have H' :=am_ H;clear H;obtain⟨O0,O1⟩:=nn_ i4;obtain⟨O2,O3⟩:=nn_ d7;obtain⟨O4,O5⟩:=nn_ d8
   obtain⟨z9,A0,A1,A2⟩:=bc2_ l
   go_wp2_with (first|((with_reducible refine gd_ 8 ?_);refine by_ 8 (cs:= #[.int .i64 0,.slice none 0 0]) (t:=29) ?_;intro T hg A3 z hb;have O6:=gw_ hg;obtain⟨e6,i5⟩:=qn_ l hg;obtain⟨t0,e7⟩:=qn_ s hg;obtain⟨o0,b5⟩:=qn_ u hg;obtain⟨o1,b6⟩:=qn_ x hg;replace l:=qbl_ l hb;replace s:=qbl_ s hb;replace u:=qbl_ u hb;replace x:=qbl_ x hb;replace HB:=hs_ hb;clear hb hg;obtain⟨O7,O8⟩:=nn_ i5;obtain⟨O9,P0⟩:=nn_ e7;obtain⟨P1,P2⟩:=nn_ b5;obtain⟨P3,P4⟩:=nn_ b6;obtain⟨A4,A5,A6,A7⟩:=bc2_ z)|((with_reducible refine gd_ 9 ?_);refine by_ 9 (cs:= #[.int .i64 0,.int .i64 0,.int .i64 0,.bool false]) (t:=72) ?_;intro U hg A8 E hb;have P5:=gw_ hg;have j8:=am_ ((by rw[hg];exact Nat.ne_of_lt (blk_lt (g:=V) (o:= .cells #[.int .i64 j,.slice F c.length A] 29 (0,0)) (qf_ l)):V≠U));have A9:=am_ ((by rw[hg];exact Nat.ne_of_gt (blk_lt (g:=V) (o:= .cells #[.int .i64 j,.slice F c.length A] 29 (0,0)) (qf_ l)):U≠V));have t1:=am_ ((by rw[hg];exact Nat.ne_of_lt (blk_lt (g:=a3) (o:= .cells #[.int .i64 m,.int .i64 q] 43 (0,0)) (qf_ s)):a3≠U));have o2:=am_ ((by rw[hg];exact Nat.ne_of_gt (blk_lt (g:=a3) (o:= .cells #[.int .i64 m,.int .i64 q] 43 (0,0)) (qf_ s)):U≠a3));have q0:=am_ ((by rw[hg];exact Nat.ne_of_lt (blk_lt (g:=I) (o:= .cells #[.int .i64 0,.slice none 0 0] 29 (0,0)) (qf_ u)):I≠U));have i6:=am_ ((by rw[hg];exact Nat.ne_of_gt (blk_lt (g:=I) (o:= .cells #[.int .i64 0,.slice none 0 0] 29 (0,0)) (qf_ u)):U≠I));have q1:=am_ ((by rw[hg];exact Nat.ne_of_lt (blk_lt (g:=J) (o:= .cells #[.int .i64 0,.int .i64 0] 43 (0,0)) (qf_ x)):J≠U));have i7:=am_ ((by rw[hg];exact Nat.ne_of_gt (blk_lt (g:=J) (o:= .cells #[.int .i64 0,.int .i64 0] 43 (0,0)) (qf_ x)):U≠J));have j9:=am_ ((by rw[hg];exact Nat.ne_of_lt (blk_lt (g:=T) (o:= .cells #[.int .i64 j,.slice none 0 0] 29 (0,0)) (qp_ z)):T≠U));have i8:=am_ ((by rw[hg];exact Nat.ne_of_gt (blk_lt (g:=T) (o:= .cells #[.int .i64 j,.slice none 0 0] 29 (0,0)) (qp_ z)):U≠T));replace l:=qbl_ l hb;replace s:=qbl_ s hb;replace u:=qbl_ u hb;replace x:=qbl_ x hb;replace z:=am_ (blk_below (g:=T) (o:= .cells #[.int .i64 j,.slice none 0 0] 29 (0,0)) (qp_ z) hb);replace HB:=hs_ hb;clear hb hg;obtain⟨P6,P7⟩:=nn_ A9;obtain⟨P8,P9⟩:=nn_ o2;obtain⟨Q0,Q1⟩:=nn_ i6;obtain⟨Q2,Q3⟩:=nn_ i7;obtain⟨Q4,Q5⟩:=nn_ i8;obtain⟨B0,B2,B7,C0,C1,C2,C3,C4⟩:=bc4_ E))
   go_loopg [10] kj2 (fun kq v10 w' =>∃ (a:Int) (c2:List (S72)) (e8:Int) (e9:Int) (e0:Int) (k0:Bool) (a6:Value),v10= .int .i64 a∧Aside0 (spec_WebTake.l0 kq a j c m q j c2 e8 e9 e0 k0=some (h8,h9,i0,i1,i2,i3))∧Aside0 (kq≤kj2)∧Aside0 (Kd.R k72 72 w' w.heap.size (fun k_=>k_≠U) a6 c2)∧Aside0 (w'.heap[V]? =some (.cells #[.int .i64 j,(.slice F c.length A)] 29 (0,0)))∧Aside0 (w'.heap[a3]? =some (.cells #[.int .i64 m,.int .i64 q] 43 (0,0)))∧Aside0 (w'.heap[I]? =some (.cells #[.int .i64 0,(.slice none 0 0)] 29 (0,0)))∧Aside0 (w'.heap[J]? =some (.cells #[.int .i64 0,.int .i64 0] 43 (0,0)))∧Aside0 (w'.heap[T]? =some (.cells #[.int .i64 j,a6] 29 (0,0)))∧Aside0 (w'.heap[U]? =some (.cells #[.int .i64 e8,.int .i64 e9,.int .i64 e0,.bool k0] 72 (0,0)))∧Aside0 (Below w.heap.size w w'))
   case atStart=>exact⟨(0),(([]:List (S72))),(0),(0),(0),(false),(.slice none 0 0),qe_,H',⟨Nat.le_refl _⟩,⟨by first|exact Kd.R_nil _ _ _ _ _|exact Kd.N_nil _ _ _ _ _|exact Kd.V_nil _ _ _ _ _|exact Kd.Q_nil _ _ _ _ _|exact Kd.S_nil _ _ _ _ _⟩,⟨qf_ l⟩,⟨qf_ s⟩,⟨qf_ u⟩,⟨qf_ x⟩,⟨qf_ z⟩,⟨qp_ E⟩,⟨qB_⟩⟩
   case round=>
    clear H' z9 A0 A4 A5 B0 B2 B7 C0 A1 A2 A6 A7 C1 C2 C3 C4
    obtain⟨a,c2,e8,e9,e0,k0,a6,rfl,HA,HK2,B,l,s,u,x,z,E,HB⟩:=hrel
    cases gk with
    |zero=>exact absurd HA.out (by simp [spec_WebTake.l0])
    |succ k1=>
     have H:=HA.out;clear HA
     simp only[spec_WebTake.l0]at H
     refine ib_ H ?_ ?_<;>clear H<;>intro f4 H
     ·refine id_ H ?_ ?_<;>clear H<;>rintro rfl H
      ·simp only[Option.some.injEq,Prod.mk.injEq]at H
       obtain⟨rfl,rfl,rfl,rfl,rfl,rfl⟩:=H
       obtain⟨Q8,Q9⟩:=nn_ i4;obtain⟨R0,R1⟩:=nn_ d7;obtain⟨R2,R3⟩:=nn_ d8;obtain⟨R4,R5⟩:=nn_ e6;obtain⟨R6,R7⟩:=nn_ j8
       obtain⟨R8,u0,u1,u2⟩:=bc2_ l
       obtain⟨R9,S0⟩:=nn_ o2;obtain⟨S1,S2⟩:=nn_ i6;obtain⟨S3,S4⟩:=nn_ i7;obtain⟨S5,S6⟩:=nn_ i8
       obtain⟨u3,u4,u5,u6,u7,u8,u9,v0⟩:=bc4_ E
       obtain⟨S7,S8⟩:=nn_ e7;obtain⟨S9,T0⟩:=nn_ b5;obtain⟨T2,T7⟩:=nn_ b6
       obtain⟨v1,v2,v3,v4⟩:=bc2_ z
       obtain⟨U0,U1⟩:=nn_ j5;obtain⟨U2,U3⟩:=nn_ e5
       obtain⟨v5,v6,v7,v8⟩:=bc2_ u
       obtain⟨t2,t3,v9⟩:=Kd.R_slice B.out
       subst v9;obtain⟨U4,U5⟩:=nn_ j6
       obtain⟨U6,U7,U8,U9⟩:=bc2_ x
       go_wp2
       refine bodyPost_ret (results_list (rs:=[.cell 4 29,.cell 5 43,.tmp 6,.tmp 7]) rfl (by simp) (.cell I 29 #[.int .i64 j,.slice t2 c2.length t3] (0,0) _ rfl (qp_ u) Try.underlying29 rfl (by kernel_rfl) (.cell J 43 #[.int .i64 0,.int .i64 0] (0,0) _ rfl (qp_ x) Try.underlying43 rfl (by kernel_rfl) (.tmp (.tmp .nil))))) rfl ?_
       exact⟨_,qr_,by(with_reducible repeat(first|apply Kd.R_alloc|apply Kd.R_drewN|apply Kd.R_drew));exact Kd.R_mono (Kd.R_far (p:=⟨J,1,none⟩) (Kd.R_far (p:=⟨J,0,none⟩) (Kd.R_far (p:=⟨I,1,none⟩) (Kd.R_far (p:=⟨I,0,none⟩) (Kd.R_types (Kd.R_types B.out u.out (by decide)) x.out (by decide)) (fun _ hk=>hk.1.2) (.int .i64 j)) (fun _ hk=>hk.1.2) (.slice t2 c2.length t3)) (fun _ hk=>hk.2) (.int .i64 0)) (fun _ hk=>hk.2) (.int .i64 0)) (fun _ hk=>trivial),qB_⟩
      have H' :=am_ H;clear H;obtain⟨V0,V1⟩:=nn_ i4;obtain⟨V2,V3⟩:=nn_ d7;obtain⟨V4,V5⟩:=nn_ d8;obtain⟨V6,V7⟩:=nn_ e6;obtain⟨V8,V9⟩:=nn_ j8
      obtain⟨E3,E4,E5,E6⟩:=bc2_ l
      obtain⟨W0,W1⟩:=nn_ o2;obtain⟨W2,W3⟩:=nn_ i6;obtain⟨W4,W5⟩:=nn_ i7;obtain⟨W6,W7⟩:=nn_ i8
      obtain⟨E7,E8,E9,F0,F1,F2,F3,F4⟩:=bc4_ E
      go_wp2
      go_loopg [11] k1 (fun kq v11 w' =>∃ (G:Int) (k2:Int) (k3:Int) (k4:Int) (b8:List (S72)) (a6:Value),v11= .int .i64 G∧Aside0 (spec_WebTake.l1 kq G m q j b8=some (h8,h9,i0,i1,i2,i3))∧Aside0 (kq≤k1)∧Aside0 (Kd.R k72 72 w' w.heap.size (fun k_=>k_≠U) a6 b8)∧Aside0 (w'.heap[V]? =some (.cells #[.int .i64 j,(.slice F c.length A)] 29 (0,0)))∧Aside0 (w'.heap[a3]? =some (.cells #[.int .i64 m,.int .i64 q] 43 (0,0)))∧Aside0 (w'.heap[I]? =some (.cells #[.int .i64 k2,(.slice none 0 0)] 29 (0,0)))∧Aside0 (w'.heap[J]? =some (.cells #[.int .i64 k3,.int .i64 k4] 43 (0,0)))∧Aside0 (w'.heap[T]? =some (.cells #[.int .i64 j,a6] 29 (0,0)))∧Aside0 (w'.heap[U]? =some (.cells #[.int .i64 e8,.int .i64 e9,.int .i64 e0,.bool true] 72 (0,0)))∧Aside0 (Below w.heap.size w w'))
      case atStart=>exact⟨(e0),(0),(0),(0),(c2),(a6),qe_,H',⟨Nat.le_refl _⟩,⟨ra_ B⟩,⟨qk_ l⟩,⟨qk_ s⟩,⟨qk_ u⟩,⟨qk_ x⟩,⟨qk_ z⟩,⟨qk_ E⟩,⟨qB_⟩⟩
      case round=>
       clear H' f4 E3 E4 E7 E8 E9 F0 E5 E6 F1 F2 F3 F4
       obtain⟨G,k2,k3,k4,b8,a6,rfl,HA,HK3,B,l,s,u,x,z,E,HB⟩:=hrel
       cases gk with
       |zero=>exact absurd HA.out (by simp [spec_WebTake.l1])
       |succ q2=>
        have H:=HA.out;clear HA
        simp only[spec_WebTake.l1]at H
        refine jb_ H ?_ ?_<;>clear H<;>intro d1 H
        ·have f7:decide (0≤G)=false:=decide_eq_false d1
         clear d1
         simp only[Option.some.injEq,Prod.mk.injEq]at H
         obtain⟨rfl,rfl,rfl,rfl,rfl,rfl⟩:=H
         obtain⟨X4,X5⟩:=nn_ i5;obtain⟨X6,X7⟩:=nn_ e7;obtain⟨X8,X9⟩:=nn_ b5;obtain⟨Y0,Y1⟩:=nn_ b6;obtain⟨Y2,Y3⟩:=nn_ j9
         obtain⟨Y4,Y5,Y6,Y7⟩:=bc2_ z
         obtain⟨Y8,Y9⟩:=nn_ n5;obtain⟨Z0,Z1⟩:=nn_ j5;obtain⟨Z2,Z3⟩:=nn_ e5;obtain⟨Z4,Z5⟩:=nn_ q0
         obtain⟨Z6,Z7,Z8,Z9⟩:=bc2_ u
         obtain⟨t4,t5,I3⟩:=Kd.R_slice B.out
         subst I3;obtain⟨aa,ab⟩:=nn_ n7;obtain⟨ac,ad⟩:=nn_ j6;obtain⟨ae,af⟩:=nn_ q1
         obtain⟨ag,ah,ai,aj⟩:=bc2_ x
         go_wp2
         refine bodyPost_ret (results_list (rs:=[.cell 4 29,.cell 5 43,.tmp 6,.tmp 7]) rfl (by simp) (.cell I 29 #[.int .i64 j,.slice t4 b8.length t5] (0,0) _ rfl (qp_ u) Try.underlying29 rfl (by kernel_rfl) (.cell J 43 #[.int .i64 0,.int .i64 0] (0,0) _ rfl (qp_ x) Try.underlying43 rfl (by kernel_rfl) (.tmp (.tmp .nil))))) rfl ?_
         exact⟨_,qr_,by(with_reducible repeat(first|apply Kd.R_alloc|apply Kd.R_drewN|apply Kd.R_drew));exact Kd.R_mono (Kd.R_far (p:=⟨J,1,none⟩) (Kd.R_far (p:=⟨J,0,none⟩) (Kd.R_far (p:=⟨I,1,none⟩) (Kd.R_far (p:=⟨I,0,none⟩) (Kd.R_types (Kd.R_types B.out u.out (by decide)) x.out (by decide)) (fun _ hk=>hk.1.2) (.int .i64 j)) (fun _ hk=>hk.1.2) (.slice t4 b8.length t5)) (fun _ hk=>hk.2) (.int .i64 0)) (fun _ hk=>hk.2) (.int .i64 0)) (fun _ hk=>trivial),qB_⟩
        have f7:decide (0≤G)=true:=decide_eq_true d1
        clear d1
        obtain⟨⟨L,M⟩,l7,H⟩:=bs_ H;dsimp only at H
        refine jb_ H ?_ ?_<;>clear H<;>intro d2 H
        ·have f8:decide (0≤M)=false:=decide_eq_false d2
         clear d2;have H' :=am_ H;clear H;obtain⟨ak,al⟩:=nn_ i5;obtain⟨am,an⟩:=nn_ e7;obtain⟨ao,ap⟩:=nn_ b5;obtain⟨aq,ar⟩:=nn_ b6;obtain⟨au,av⟩:=nn_ j9
         obtain⟨aw,ax,ay,az⟩:=bc2_ z
         obtain⟨aA,aC⟩:=nn_ s4;obtain⟨aD,aE⟩:=nn_ n6;obtain⟨aG,aH⟩:=nn_ n8;obtain⟨aI,aJ⟩:=nn_ t1
         obtain⟨aK,aM,aN,aQ⟩:=bc2_ s
         obtain⟨I4,I5,I6⟩:=Kd.R_slice B.out
         subst I6
         go_wp2_with (first|((with_reducible refine gc_ 93 ?_);refine gl_ (some 87) Try.func93 #[.agg #[.int .i64 j,.slice I4 b8.length I5],.agg #[.int .i64 m,.int .i64 q],.int .i64 G] ?_;(with_reducible refine(spec_l08Search.calls q2 j _ _ b8 m q G L M _ ?_ ?_ l7.out).mono ?_);exact qD_ (Kd.R_reads' B.out).2.2;exact(Kd.R_reads' B.out).2.1;rintro e t6 ⟨I7,rfl,ho0,hb⟩;refine⟨_,rfl,?_⟩;have b1:=am_ (Kd.R_lower (Kd.R_newB (Kd.R_new' ho0 (Kd.R_lt (qR_ B))) (qk_ E)) (below_size qB_));replace B:=ke_ B ho0 hb;replace l:=qbl_ l hb;replace s:=qbl_ s hb;replace u:=qbl_ u hb;replace x:=qbl_ x hb;replace z:=qbl_ z hb;replace E:=qbl_ E hb;replace HB:=hs_ hb;clear hb ho0;obtain⟨t7,t8,I8⟩:=Kd.R_slice b1.out;subst I8;obtain⟨aR,aT,aU,aV⟩:=bc2_ z))
         go_roundg q2
         case measure=>have:=d9.out;have:=HK2.out;have:=HK3.out;omega
         case rel=>exact⟨(wrap64 (G - 1)),(k2),(k3),(k4),(L),(.slice t7 L.length t8),qe_,H',⟨by have:=d9.out;have:=HK2.out;have:=HK3.out;omega⟩,⟨by(with_reducible repeat(first|apply Kd.R_alloc|apply Kd.R_drewN|apply Kd.R_drew));exact Kd.R_mono (Kd.R_far (p:=⟨T,1,none⟩) (Kd.R_types b1.out z.out (by decide)) (fun _ hk=>hk.2) (.slice t7 L.length t8)) (fun _ hk=>hk.1.2)⟩,⟨qf_ l⟩,⟨qf_ s⟩,⟨qf_ u⟩,⟨qf_ x⟩,⟨qp_ z⟩,⟨qf_ E⟩,⟨qB_⟩⟩
        have f8:decide (0≤M)=true:=decide_eq_true d2
        clear d2
        refine ig_ H ?_;clear H;intro o3 H
        refine ig_ H ?_;clear H;intro o4 H
        simp only[Option.some.injEq,Prod.mk.injEq]at H
        obtain⟨rfl,rfl,rfl,rfl,rfl,rfl⟩:=H
        obtain⟨aW,aX⟩:=nn_ i5;obtain⟨aY,aZ⟩:=nn_ e7;obtain⟨ba,bb⟩:=nn_ b5;obtain⟨bc,bd⟩:=nn_ b6;obtain⟨be,bf⟩:=nn_ j9
        obtain⟨bg,bh,bi,bj⟩:=bc2_ z
        obtain⟨bk,bl⟩:=nn_ s4;obtain⟨bn,bo⟩:=nn_ n6;obtain⟨bp,bq⟩:=nn_ n8;obtain⟨T1,br⟩:=nn_ t1
        obtain⟨bs,bt,bu,bv⟩:=bc2_ s
        obtain⟨q3,q4,I9⟩:=Kd.R_slice B.out
        subst I9
        try go_wp2_with (first|((with_reducible refine gc_ 93 ?_);refine gl_ (some 87) Try.func93 #[.agg #[.int .i64 j,.slice q3 b8.length q4],.agg #[.int .i64 m,.int .i64 q],.int .i64 G] ?_;(with_reducible refine(spec_l08Search.calls q2 j _ _ b8 m q G L M _ ?_ ?_ l7.out).mono ?_);exact qD_ (Kd.R_reads' B.out).2.2;exact(Kd.R_reads' B.out).2.1;rintro e O ⟨I7,rfl,ho0,hb⟩;refine⟨_,rfl,?_⟩;have b1:=am_ (Kd.R_lower (Kd.R_newB (Kd.R_new' ho0 (Kd.R_lt (qR_ B))) (qk_ E)) (below_size qB_));replace B:=ke_ B ho0 hb;replace l:=qbl_ l hb;replace s:=qbl_ s hb;replace u:=qbl_ u hb;replace x:=qbl_ x hb;replace z:=qbl_ z hb;replace E:=qbl_ E hb;replace HB:=hs_ hb;clear hb ho0;obtain⟨b2,Z,J0⟩:=Kd.R_slice b1.out;subst J0;obtain⟨bw,bx,B1,bz⟩:=bc2_ z))
        have f9:Aside0 (Kd.R k72 72 (O.setCell ⟨T,1,none⟩ (.slice b2 L.length Z)) w.heap.size (fun k_=>some k_≠(.slice b2 L.length Z:Value).ownBlock∧k_≠U) (.slice q3 b8.length q4) b8):=⟨by(with_reducible repeat(first|apply Kd.R_alloc|apply Kd.R_drewN|apply Kd.R_drew));exact Kd.R_mono (Kd.R_far (p:=⟨T,1,none⟩) (Kd.R_types B.out z.out (by decide)) (fun _ hk=>hk.2) (.slice b2 L.length Z)) (fun _ hk=>⟨hk.1.2,hk.1.1⟩)⟩
        have g0:Aside0 (Kd.R k72 72 (O.setCell ⟨T,1,none⟩ (.slice b2 L.length Z)) w.heap.size (fun k_=>some k_≠(.slice q3 b8.length q4:Value).ownBlock∧k_≠U) (.slice b2 L.length Z) L):=⟨by(with_reducible repeat(first|apply Kd.R_alloc|apply Kd.R_drewN|apply Kd.R_drew));exact Kd.R_mono (Kd.R_far (p:=⟨T,1,none⟩) (Kd.R_types b1.out z.out (by decide)) (fun _ hk=>hk.2) (.slice b2 L.length Z)) (fun _ hk=>⟨hk.1.1.2,hk.1.2⟩)⟩
        have g1:Aside0 ((O.setCell ⟨T,1,none⟩ (.slice b2 L.length Z)).heap[V]? =some (.cells #[.int .i64 j,.slice F c.length A] 29 (0,0))):=⟨qf_ l⟩
        have g2:Aside0 ((O.setCell ⟨T,1,none⟩ (.slice b2 L.length Z)).heap[a3]? =some (.cells #[.int .i64 m,.int .i64 q] 43 (0,0))):=⟨qf_ s⟩
        have g3:Aside0 ((O.setCell ⟨T,1,none⟩ (.slice b2 L.length Z)).heap[I]? =some (.cells #[.int .i64 k2,.slice none 0 0] 29 (0,0))):=⟨qf_ u⟩
        have g4:Aside0 ((O.setCell ⟨T,1,none⟩ (.slice b2 L.length Z)).heap[J]? =some (.cells #[.int .i64 k3,.int .i64 k4] 43 (0,0))):=⟨qf_ x⟩
        have g5:Aside0 ((O.setCell ⟨T,1,none⟩ (.slice b2 L.length Z)).heap[T]? =some (.cells #[.int .i64 j,.slice b2 L.length Z] 29 (0,0))):=⟨qp_ z⟩
        have g6:Aside0 ((O.setCell ⟨T,1,none⟩ (.slice b2 L.length Z)).heap[U]? =some (.cells #[.int .i64 e8,.int .i64 e9,.int .i64 e0,.bool true] 72 (0,0))):=⟨qf_ E⟩
        have g7:Aside0 (Below w.heap.size w (O.setCell ⟨T,1,none⟩ (.slice b2 L.length Z))):=⟨qB_⟩
        clear B b1 l s u x z E HB
        generalize (O.setCell ⟨T,1,none⟩ (.slice b2 L.length Z))=l8 at f9 g0 g1 g2 g3 g4 g5 g6 g7 ⊢
        have B:=f9;have b1:=g0;have l:=g1;have s:=g2;have u:=g3;have x:=g4;have z:=g5;have E:=g6;have HB:=g7;clear f9 g0 g1 g2 g3 g4 g5 g6 g7
        replace B:=rd_ B;replace b1:=rd_ b1;replace l:=bd_ l;replace s:=bd_ s;replace u:=bd_ u;replace x:=bd_ x;replace z:=bd_ z;replace E:=bd_ E;replace HB:=hd_ HB
        have l9:=dt_ M
        have m0:=du_ M L.length
        obtain⟨y,m1,t9,w2,w3,l2⟩:=at_T72 (Kd.R_reads' b1.out).2.2 M (ot_ l9) (ot_ m0)
        cases m1
        have m2:=dt_ M
        have m3:=du_ M L.length
        obtain⟨g8,m4,l3,w4,w5,w6⟩:=at_T72 (Kd.R_reads' b1.out).2.2 M (ot_ m2) (ot_ m3)
        obtain rfl:y=g8:=(by injection m4)
        refine start_ (n:=16) (S:=fun w' =>w'.cell? ⟨T,0,none⟩=some (.int .i64 j)∧w'.cell? ⟨T,1,none⟩=some (.slice (some y) L.length Z)∧w'.cell? (y.add ((M).toNat * 4))=some (.int .i64 ((rd_T72 L M).f0))∧w'.cell? ⟨(y.add ((M).toNat * 4)).block,(y.add ((M).toNat * 4)).off + 1,none⟩=some (.int .i64 ((rd_T72 L M).f1))∧w'.cell? ⟨(y.add ((M).toNat * 4)).block,(y.add ((M).toNat * 4)).off + 2,none⟩=some (.int .i64 ((rd_T72 L M).f2))∧w'.cell? ⟨(y.add ((M).toNat * 4)).block,(y.add ((M).toNat * 4)).off + 3,none⟩=some (.bool ((rd_T72 L M).f3))∧w'.cell? (y.add ((M).toNat * 4))=some (.int .i64 ((rd_T72 L M).f0))∧w'.cell? ⟨(y.add ((M).toNat * 4)).block,(y.add ((M).toNat * 4)).off + 1,none⟩=some (.int .i64 ((rd_T72 L M).f1))∧w'.cell? ⟨(y.add ((M).toNat * 4)).block,(y.add ((M).toNat * 4)).off + 2,none⟩=some (.int .i64 ((rd_T72 L M).f2))∧w'.cell? ⟨(y.add ((M).toNat * 4)).block,(y.add ((M).toNat * 4)).off + 3,none⟩=some (.bool ((rd_T72 L M).f3))) (ds:=[]) (bm 16 0) (by kernel_rfl) rfl (by kernel_rfl) ⟨bl_ z 0,bl_ z 1,t9,w2,w3,l2,l3,w4,w5,w6⟩ (fun hHeld=> ?_);refine with_tabW spec_WebTake.tab19 spec_WebTake.bits19 (fun HT_ HW_=> ?_)
        generalize l8.drew=b4 at B b1 l s u x z E HB t9 w2 w3 l2 l3 w4 w5 w6 hHeld ⊢
        refine pz_ 1 95 16 2 ?_;refine pz_ 2 96 16 6 ?_;refine pz_ 3 97 16 14 ?_;refine pz_ 4 98 16 30 ?_;refine pz_ 6 100 16 94 ?_;refine pz_ 7 101 16 222 ?_;refine pz_ 8 102 16 478 ?_;refine pz_ 9 103 16 990 ?_;refine tz10_ 0 94 (bm 16 991) ?_;refine tz10_ 5 99 (bm 16 1023) ?_;refine tz10_ 10 104 (bm 16 2047) ?_;refine pz_ 11 105 16 4095 ?_
        refine o1_ 12 none 16 8191 (fun K hK=> ?_)
        have q5:b4.cell? ⟨I,0,none⟩=some (.int .i64 k2):=bl_ u 0
        have o5:=blk_frozen u.out 0
        have B3:=d7.out;have B4:=n6.out;have B5:=n9.out;have B6:=b5.out;have bA:=i6.out;have B8:=n5.out;have B9:=j5.out;have bB:=e5.out;have bC:=o0.out;have bD:=q0.out
        have q6:b4.cell? ⟨I,1,none⟩=some (.slice none 0 0):=bl_ u 1
        have o6:=blk_frozen u.out 1
        have bE:=d7.out;have bF:=n6.out;have bG:=n9.out;have bH:=b5.out;have bI:=i6.out;have bJ:=n5.out;have bK:=j5.out;have bL:=e5.out;have bM:=o0.out;have bN:=q0.out
        refine skip_ (w1:= ?_) (by rfl) rfl ?_ ?_
        rotate_left
        ·go_simp
         rfl
        have nb_:=Kd.own_blk (Kd.R_ne b1.out u.out (by decide))
        refine hK.out _ _ ⟨((cell_far (p:=⟨I,_,none⟩) b5.out _).trans (((cell_far (p:=⟨I,_,none⟩) b5.out _).trans (hHeld.1)))),((cell_far (p:=⟨I,_,none⟩) b5.out _).trans (((cell_far (p:=⟨I,_,none⟩) b5.out _).trans (hHeld.2.1)))),((cell_far (p:=⟨I,_,none⟩) (nx_ nb_) _).trans (((cell_far (p:=⟨I,_,none⟩) (nx_ nb_) _).trans (hHeld.2.2.1)))),((cell_far (p:=⟨I,_,none⟩) (nx_ nb_) _).trans (((cell_far (p:=⟨I,_,none⟩) (nx_ nb_) _).trans (hHeld.2.2.2.1)))),((cell_far (p:=⟨I,_,none⟩) (nx_ nb_) _).trans (((cell_far (p:=⟨I,_,none⟩) (nx_ nb_) _).trans (hHeld.2.2.2.2.1)))),((cell_far (p:=⟨I,_,none⟩) (nx_ nb_) _).trans (((cell_far (p:=⟨I,_,none⟩) (nx_ nb_) _).trans (hHeld.2.2.2.2.2.1)))),((cell_far (p:=⟨I,_,none⟩) (nx_ nb_) _).trans (((cell_far (p:=⟨I,_,none⟩) (nx_ nb_) _).trans (hHeld.2.2.2.2.2.2.1)))),((cell_far (p:=⟨I,_,none⟩) (nx_ nb_) _).trans (((cell_far (p:=⟨I,_,none⟩) (nx_ nb_) _).trans (hHeld.2.2.2.2.2.2.2.1)))),((cell_far (p:=⟨I,_,none⟩) (nx_ nb_) _).trans (((cell_far (p:=⟨I,_,none⟩) (nx_ nb_) _).trans (hHeld.2.2.2.2.2.2.2.2.1)))),((cell_far (p:=⟨I,_,none⟩) (nx_ nb_) _).trans (((cell_far (p:=⟨I,_,none⟩) (nx_ nb_) _).trans (hHeld.2.2.2.2.2.2.2.2.2))))⟩ (fun hHeld=> ?_)
        clear hK K
        refine o1_ 13 none 16 16383 (fun K hK=> ?_)
        have q7:b4.cell? ⟨J,0,none⟩=some (.int .i64 k3):=bl_ x 0
        have o7:=blk_frozen x.out 0
        have bO:=d8.out;have bP:=n8.out;have bQ:=e5.out;have bR:=b6.out;have bS:=i7.out;have bT:=n7.out;have bU:=j6.out;have bV:=n9.out;have bW:=o1.out;have bX:=q1.out
        have q8:b4.cell? ⟨J,1,none⟩=some (.int .i64 k4):=bl_ x 1
        have o8:=blk_frozen x.out 1
        have bY:=d8.out;have bZ:=n8.out;have ca:=e5.out;have cb:=b6.out;have cc:=i7.out;have cd:=n7.out;have ce:=j6.out;have cf:=n9.out;have cg:=o1.out;have ch:=q1.out
        refine skip_ (w1:= ?_) (by rfl) rfl ?_ ?_
        rotate_left
        ·go_simp
         rfl
        have nb_:=Kd.own_blk (Kd.R_ne b1.out x.out (by decide))
        refine hK.out _ _ ⟨((cell_far (p:=⟨J,_,none⟩) b6.out _).trans (((cell_far (p:=⟨J,_,none⟩) b6.out _).trans (hHeld.1)))),((cell_far (p:=⟨J,_,none⟩) b6.out _).trans (((cell_far (p:=⟨J,_,none⟩) b6.out _).trans (hHeld.2.1)))),((cell_far (p:=⟨J,_,none⟩) (nx_ nb_) _).trans (((cell_far (p:=⟨J,_,none⟩) (nx_ nb_) _).trans (hHeld.2.2.1)))),((cell_far (p:=⟨J,_,none⟩) (nx_ nb_) _).trans (((cell_far (p:=⟨J,_,none⟩) (nx_ nb_) _).trans (hHeld.2.2.2.1)))),((cell_far (p:=⟨J,_,none⟩) (nx_ nb_) _).trans (((cell_far (p:=⟨J,_,none⟩) (nx_ nb_) _).trans (hHeld.2.2.2.2.1)))),((cell_far (p:=⟨J,_,none⟩) (nx_ nb_) _).trans (((cell_far (p:=⟨J,_,none⟩) (nx_ nb_) _).trans (hHeld.2.2.2.2.2.1)))),((cell_far (p:=⟨J,_,none⟩) (nx_ nb_) _).trans (((cell_far (p:=⟨J,_,none⟩) (nx_ nb_) _).trans (hHeld.2.2.2.2.2.2.1)))),((cell_far (p:=⟨J,_,none⟩) (nx_ nb_) _).trans (((cell_far (p:=⟨J,_,none⟩) (nx_ nb_) _).trans (hHeld.2.2.2.2.2.2.2.1)))),((cell_far (p:=⟨J,_,none⟩) (nx_ nb_) _).trans (((cell_far (p:=⟨J,_,none⟩) (nx_ nb_) _).trans (hHeld.2.2.2.2.2.2.2.2.1)))),((cell_far (p:=⟨J,_,none⟩) (nx_ nb_) _).trans (((cell_far (p:=⟨J,_,none⟩) (nx_ nb_) _).trans (hHeld.2.2.2.2.2.2.2.2.2))))⟩ (fun hHeld=> ?_)
        clear hK K;refine pz_ 14 6 16 32767 ?_;refine pz_ 15 7 16 65535 ?_
        refine done_ (done_of HT_.out (by kernel_rfl)) ?_
        try go_wp2
        refine bodyPost_ret (results_list (rs:=[.cell 4 29,.cell 5 43,.tmp 6,.tmp 7]) rfl (by simp) (.cell I 29 #[.int .i64 j,.slice (some y) L.length Z] (0,0) _ rfl (qp_ u) Try.underlying29 rfl (by kernel_rfl) (.cell J 43 #[.int .i64 ((rd_T72 L M).f0),.int .i64 ((rd_T72 L M).f1)] (0,0) _ rfl (qp_ x) Try.underlying43 rfl (by kernel_rfl) (.tmp (.tmp .nil))))) rfl ?_
        exact⟨_,qr_,by(with_reducible repeat(first|apply Kd.R_alloc|apply Kd.R_drewN|apply Kd.R_drew));exact Kd.R_mono (Kd.R_far (p:=⟨J,1,none⟩) (Kd.R_far (p:=⟨J,0,none⟩) (Kd.R_far (p:=⟨I,1,none⟩) (Kd.R_far (p:=⟨I,0,none⟩) (Kd.R_types (Kd.R_types b1.out u.out (by decide)) x.out (by decide)) (fun _ hk=>hk.1.2) (.int .i64 j)) (fun _ hk=>hk.1.2) (.slice (some y) L.length Z)) (fun _ hk=>hk.2) (.int .i64 ((rd_T72 L M).f0))) (fun _ hk=>hk.2) (.int .i64 ((rd_T72 L M).f1))) (fun _ hk=>trivial),qB_⟩
     refine ig_ H ?_;clear H;intro q9 H
     refine jb_ H ?_ ?_<;>clear H<;>intro b7 H
     ·have c3:(((rd_T72 c a).f0)==m)=false:=beq_eq_false_iff_ne.mpr b7
      have c4:(((rd_T72 c a).f0) != m)=true:=bne_iff_ne.mpr b7
      refine jg_ H ?_;clear H;intro f6 H
      have g9:=am_ f6
      clear f6
      generalize c5:(c2++[(⟨(rd_T72 c a).f0,(rd_T72 c a).f1,(rd_T72 c a).f2,(rd_T72 c a).f3⟩:S72)])=r0 at H;replace H:=bh_ H;have h0:=am_ c5.symm;clear c5;have H' :=am_ H;clear H;obtain⟨ci,cj⟩:=nn_ i4;obtain⟨ck,cl⟩:=nn_ d7;obtain⟨cm,cn⟩:=nn_ d8;obtain⟨co,cp⟩:=nn_ e6;obtain⟨cq,J1⟩:=nn_ j8
      obtain⟨H9,I0,I1,I2⟩:=bc2_ l
      try go_wp2
      replace B:=rd_ B;replace l:=bd_ l;replace s:=bd_ s;replace u:=bd_ u;replace x:=bd_ x;replace z:=bd_ z;replace E:=bd_ E;replace HB:=hd_ HB
      have X:=dt_ a
      have Y:=du_ a c.length
      obtain⟨d,a2,a7,a8,a9,b0⟩:=at_T72 D.out a (ot_ X) (ot_ Y)
      have m5:=b0;have m6:=a9;have m7:=a8;have m8:=a7;cases a2
      replace a7:=qx_ HB a7
      replace a8:=qx_ HB a8
      replace a9:=qx_ HB a9
      replace b0:=qx_ HB b0
      refine start_ (n:=20) (S:=fun w' =>w'.cell? ⟨V,0,none⟩=some (.int .i64 j)∧w'.cell? ⟨V,1,none⟩=some (.slice (some d) c.length A)∧w'.cell? ⟨a3,0,none⟩=some (.int .i64 m)∧w'.cell? ⟨a3,1,none⟩=some (.int .i64 q)∧w'.cell? (d.add ((a).toNat * 4))=some (.int .i64 ((rd_T72 c a).f0))∧w'.cell? ⟨(d.add ((a).toNat * 4)).block,(d.add ((a).toNat * 4)).off + 1,none⟩=some (.int .i64 ((rd_T72 c a).f1))∧w'.cell? ⟨(d.add ((a).toNat * 4)).block,(d.add ((a).toNat * 4)).off + 2,none⟩=some (.int .i64 ((rd_T72 c a).f2))∧w'.cell? ⟨(d.add ((a).toNat * 4)).block,(d.add ((a).toNat * 4)).off + 3,none⟩=some (.bool ((rd_T72 c a).f3))) (ds:=[]) (bm 20 0) (by kernel_rfl) rfl (by kernel_rfl) ⟨bl_ l 0,bl_ l 1,bl_ s 0,bl_ s 1,((qx_ HB m8).trans rfl),((qx_ HB m7).trans rfl),((qx_ HB m6).trans rfl),((qx_ HB m5).trans rfl)⟩ (fun hHeld=> ?_);refine with_tabW spec_WebTake.tab8 spec_WebTake.bits8 (fun HT_ HW_=> ?_)
      generalize wr.drew=r1 at B l s u x z E HB a7 a8 a9 b0 hHeld ⊢
      refine pz_ 0 37 20 1 ?_;refine pz_ 2 39 20 5 ?_;refine pz_ 6 43 20 69 ?_;refine tz8_ 1 38 20 71 ?_;refine pz_ 3 40 20 79 ?_;refine pz_ 4 41 20 95 ?_;refine tz8_ 5 42 20 127 ?_;refine tz8_ 7 44 20 255 ?_;refine pz_ 8 45 20 511 ?_;refine pz_ 9 46 20 1023 ?_
      refine pu_ 10 47 20 2047 ?_
      refine pu_ 11 48 20 4095 ?_
      refine pu_ 12 49 20 8191 ?_
      refine pu_ 13 50 20 16383 ?_
      refine pu_ 14 51 20 32767 ?_
      refine pu_ 15 52 20 65535 ?_
      refine pu_ 16 53 20 131071 ?_
      refine pu_ 17 54 20 262143 ?_
      refine pu_ 18 55 20 524287 ?_
      refine pz_ 19 56 20 1048575 ?_
      refine done_ (done_of HT_.out (by kernel_rfl)) ?_
      try go_wp2
      replace B:=rd_ B;replace l:=bd_ l;replace s:=bd_ s;replace u:=bd_ u;replace x:=bd_ x;replace z:=bd_ z;replace E:=bd_ E;replace HB:=hd_ HB
      have e2:=dt_ a
      have e4:=du_ a c.length
      obtain⟨h1,m9,k9,l4,l5,l6⟩:=at_T72 D.out a (ot_ e2) (ot_ e4)
      have o9:=l6;have p0:=l5;have p1:=l4;have p2:=k9
      obtain rfl:d=h1:=(by injection m9)
      replace k9:=qx_ HB k9
      replace l4:=qx_ HB l4
      replace l5:=qx_ HB l5
      replace l6:=qx_ HB l6
      refine start_ (n:=11) (S:=fun w' =>w'.cell? ⟨T,0,none⟩=some (.int .i64 j)∧w'.cell? ⟨T,1,none⟩=some (a6)∧w'.cell? ⟨V,0,none⟩=some (.int .i64 j)∧w'.cell? ⟨V,1,none⟩=some (.slice (some d) c.length A)∧w'.cell? (d.add ((a).toNat * 4))=some (.int .i64 ((rd_T72 c a).f0))∧w'.cell? ⟨(d.add ((a).toNat * 4)).block,(d.add ((a).toNat * 4)).off + 1,none⟩=some (.int .i64 ((rd_T72 c a).f1))∧w'.cell? ⟨(d.add ((a).toNat * 4)).block,(d.add ((a).toNat * 4)).off + 2,none⟩=some (.int .i64 ((rd_T72 c a).f2))∧w'.cell? ⟨(d.add ((a).toNat * 4)).block,(d.add ((a).toNat * 4)).off + 3,none⟩=some (.bool ((rd_T72 c a).f3))) (ds:=[10]) (bm 11 0) (by kernel_rfl) rfl (by kernel_rfl) ⟨bl_ z 0,bl_ z 1,bl_ l 0,bl_ l 1,((qx_ HB p2).trans rfl),((qx_ HB p1).trans rfl),((qx_ HB p0).trans rfl),((qx_ HB o9).trans rfl)⟩ (fun hHeld=> ?_);refine with_tabW spec_WebTake.tab10 spec_WebTake.bits10 (fun HT_ HW_=> ?_)
      generalize r1.drew=J2 at B l s u x z E HB k9 l4 l5 l6 hHeld ⊢
      refine pz_ 0 62 11 1 ?_;refine pz_ 2 64 11 5 ?_;refine pz_ 4 66 11 21 ?_;refine tz8_ 1 63 11 23 ?_;refine tz8_ 3 65 11 31 ?_;refine pz_ 5 67 11 63 ?_;refine tz8_ 6 68 11 127 ?_
      refine o1_ 7 (some 69) 11 255 (fun K hK=> ?_)
      refine value_ (w1:= ?_) (v:= ?_) (by rfl) rfl ?_ ?_
      rotate_left 2
      ·go_simp
       constructor
       ·rfl
       rfl
      refine hK.out _ _ ⟨(blk_cell (blk_alloc z.out _) 0).trans rfl,(blk_cell (blk_alloc z.out _) 1).trans rfl,(blk_cell (blk_alloc l.out _) 0).trans rfl,(blk_cell (blk_alloc l.out _) 1).trans rfl,(World.cell?_alloc_lt _ _ _ (World.block_lt_of_cell? _ _ (((qx_ HB p2).trans rfl)))).trans (((qx_ HB p2).trans rfl)),(World.cell?_alloc_lt _ _ _ (World.block_lt_of_cell? _ _ (((qx_ HB p1).trans rfl)))).trans (((qx_ HB p1).trans rfl)),(World.cell?_alloc_lt _ _ _ (World.block_lt_of_cell? _ _ (((qx_ HB p0).trans rfl)))).trans (((qx_ HB p0).trans rfl)),(World.cell?_alloc_lt _ _ _ (World.block_lt_of_cell? _ _ (((qx_ HB o9).trans rfl)))).trans (((qx_ HB o9).trans rfl))⟩ (fun hHeld=> ?_)
      clear hK K
      refine nm_ 69 ?_
      refine o1_ 8 (some 70) 11 511 (fun K hK=> ?_)
      refine Kd.R_append_step k72 (w0:=w) w.heap.size (by rfl) (.tmp 63) (.tmp 69) 27 72 (.agg #[(.int .i64 0),(.int .i64 0),(.int .i64 0),(.bool false)]) 32 rfl Try.underlying27 info72 rfl (by decide) (by omega) a6 c2 (⟨(rd_T72 c a).f0,(rd_T72 c a).f1,(rd_T72 c a).f2,(rd_T72 c a).f3⟩:S72) [.int .i64 ((rd_T72 c a).f0),.int .i64 ((rd_T72 c a).f1),.int .i64 ((rd_T72 c a).f2),.bool ((rd_T72 c a).f3)] (fun k_=>k_≠U) (fun _=>False) rfl rfl ?aP (fun _ hk=>hk.elim) ?aF ?aO ?aB ?aS ?aL ?_
      (case aP=>exact k72_mkM _ _ _ (⟨(rd_T72 c a).f0,(rd_T72 c a).f1,(rd_T72 c a).f2,(rd_T72 c a).f3⟩:S72))
      (case aB=>exact qB_)
      (case aF=>exact(fun k_ hk=>Kd.freshB (qk_ E) k_ hk))
      (case aO=>exact(qR_ B))
      (case aS=>exact(below_size qB_))
      (case aL=>have:=g9.out;omega)
      intro J3 r2 ho hb hg hat
      rw[←h0.out]at ho
      have w7:=am_ (ho);replace l:=am_ (blk_grown (qk_ l) hg (Kd.R_ne B.out l.out (by decide)));replace s:=am_ (blk_grown (qk_ s) hg (Kd.R_ne B.out s.out (by decide)));replace u:=am_ (blk_grown (qk_ u) hg (Kd.R_ne B.out u.out (by decide)));replace x:=am_ (blk_grown (qk_ x) hg (Kd.R_ne B.out x.out (by decide)));replace z:=am_ (blk_grown (qk_ z) hg (Kd.R_ne B.out z.out (by decide)));replace E:=am_ (blk_grown (qk_ E) hg (Kd.R_away B.out (fun _ hk=>hk)));replace HB:=am_ (hb);clear B ho hb hg hat
      obtain⟨w8,w9,x0⟩:=Kd.R_slice w7.out
      (first|subst x0|(injection x0 with a0 b9 a1;have c0:=a0.symm;have c1:=a1.symm;clear a0 b9 a1;subst c0;subst c1))
      refine hK.out _ _ ⟨bl_ z 0,bl_ z 1,bl_ l 0,bl_ l 1,((qx_ HB p2).trans rfl),((qx_ HB p1).trans rfl),((qx_ HB p0).trans rfl),((qx_ HB o9).trans rfl)⟩ (fun hHeld=> ?_)
      clear hK K
      refine nm_ 70 ?_
      refine pz_ 9 71 11 1023 ?_
      refine last_ (i:=10) (N:=none) (bm 11 2047) rfl rfl (one_of HT_.out (by kernel_rfl)) (by decide) (fun K hK=> ?_)
      have x1:r2.cell? ⟨T,1,none⟩=some (a6):=bl_ z 1
      have r3:=blk_frozen z.out 1
      have cr:=e6.out;have ct:=t0.out;have cu:=o0.out;have cv:=o1.out;have cw:=i8.out;have cx:=i5.out;have cy:=e7.out;have cz:=b5.out;have cA:=b6.out;have cB:=j9.out
      refine skip_ (w1:= ?_) (by rfl) rfl ?_ ?_
      rotate_left
      ·go_simp
       rfl
      refine hK.out _ _ ?_
      clear hK K
      refine done_ (done_of HT_.out (by kernel_rfl)) ?_
      try go_wp2
      go_roundg k1
      case measure=>have:=d9.out;have:=HK2.out;omega
      case rel=>exact⟨(wrap64 (a + 1)),(r0),(e8),(e9),(e0),(k0),(.slice w8 r0.length w9),qe_,H',⟨by have:=d9.out;have:=HK2.out;omega⟩,⟨by(with_reducible repeat(first|apply Kd.R_alloc|apply Kd.R_drewN|apply Kd.R_drew));exact Kd.R_mono (Kd.R_far (p:=⟨T,1,none⟩) (Kd.R_types w7.out z.out (by decide)) (fun _ hk=>hk.2) (.slice w8 r0.length w9)) (fun _ hk=>hk.1)⟩,⟨qf_ l⟩,⟨qf_ s⟩,⟨qf_ u⟩,⟨qf_ x⟩,⟨qp_ z⟩,⟨qf_ E⟩,⟨qB_⟩⟩
     have c3:(((rd_T72 c a).f0)==m)=true:=beq_iff_eq.mpr b7
     have c4:(((rd_T72 c a).f0) != m)=false:=bne_eq_false_iff_eq.mpr b7
     clear b7
     refine jc_ H ?_ ?_<;>clear H<;>intro c6 H
     ·have h2:(((rd_T72 c a).f1)==q)=true:=beq_iff_eq.mpr c6
      have h3:(((rd_T72 c a).f1) != q)=false:=bne_eq_false_iff_eq.mpr c6
      clear c6;have H' :=am_ H;clear H;obtain⟨J4,J5⟩:=nn_ i4;obtain⟨J6,J7⟩:=nn_ d7;obtain⟨J8,J9⟩:=nn_ d8;obtain⟨K0,K1⟩:=nn_ e6;obtain⟨K2,K3⟩:=nn_ j8
      obtain⟨cC,cD,cE,cF⟩:=bc2_ l
      try go_wp2
      replace B:=rd_ B;replace l:=bd_ l;replace s:=bd_ s;replace u:=bd_ u;replace x:=bd_ x;replace z:=bd_ z;replace E:=bd_ E;replace HB:=hd_ HB
      have X:=dt_ a
      have Y:=du_ a c.length
      obtain⟨d,a2,a7,a8,a9,b0⟩:=at_T72 D.out a (ot_ X) (ot_ Y)
      have m5:=b0;have m6:=a9;have m7:=a8;have m8:=a7;cases a2
      replace a7:=qx_ HB a7
      replace a8:=qx_ HB a8
      replace a9:=qx_ HB a9
      replace b0:=qx_ HB b0
      have c7:=dt_ a
      have c8:=du_ a c.length
      obtain⟨b3,c9,d3,d4,d5,d6⟩:=at_T72 D.out a (ot_ c7) (ot_ c8)
      have r4:=d6;have r5:=d5;have r6:=d4;have r7:=d3
      obtain rfl:d=b3:=(by injection c9)
      replace d3:=qx_ HB d3
      replace d4:=qx_ HB d4
      replace d5:=qx_ HB d5
      replace d6:=qx_ HB d6
      refine start_ (n:=20) (S:=fun w' =>w'.cell? ⟨V,0,none⟩=some (.int .i64 j)∧w'.cell? ⟨V,1,none⟩=some (.slice (some d) c.length A)∧w'.cell? ⟨a3,0,none⟩=some (.int .i64 m)∧w'.cell? ⟨a3,1,none⟩=some (.int .i64 q)∧w'.cell? (d.add ((a).toNat * 4))=some (.int .i64 ((rd_T72 c a).f0))∧w'.cell? ⟨(d.add ((a).toNat * 4)).block,(d.add ((a).toNat * 4)).off + 1,none⟩=some (.int .i64 ((rd_T72 c a).f1))∧w'.cell? ⟨(d.add ((a).toNat * 4)).block,(d.add ((a).toNat * 4)).off + 2,none⟩=some (.int .i64 ((rd_T72 c a).f2))∧w'.cell? ⟨(d.add ((a).toNat * 4)).block,(d.add ((a).toNat * 4)).off + 3,none⟩=some (.bool ((rd_T72 c a).f3))∧w'.cell? (d.add ((a).toNat * 4))=some (.int .i64 ((rd_T72 c a).f0))∧w'.cell? ⟨(d.add ((a).toNat * 4)).block,(d.add ((a).toNat * 4)).off + 1,none⟩=some (.int .i64 ((rd_T72 c a).f1))∧w'.cell? ⟨(d.add ((a).toNat * 4)).block,(d.add ((a).toNat * 4)).off + 2,none⟩=some (.int .i64 ((rd_T72 c a).f2))∧w'.cell? ⟨(d.add ((a).toNat * 4)).block,(d.add ((a).toNat * 4)).off + 3,none⟩=some (.bool ((rd_T72 c a).f3))) (ds:=[]) (bm 20 0) (by kernel_rfl) rfl (by kernel_rfl) ⟨bl_ l 0,bl_ l 1,bl_ s 0,bl_ s 1,((qx_ HB m8).trans rfl),((qx_ HB m7).trans rfl),((qx_ HB m6).trans rfl),((qx_ HB m5).trans rfl),((qx_ HB r7).trans rfl),((qx_ HB r6).trans rfl),((qx_ HB r5).trans rfl),((qx_ HB r4).trans rfl)⟩ (fun hHeld=> ?_);refine with_tabW spec_WebTake.tab8 spec_WebTake.bits8 (fun HT_ HW_=> ?_)
      generalize wr.drew=K4 at B l s u x z E HB a7 a8 a9 b0 d3 d4 d5 d6 hHeld ⊢
      refine pz_ 0 37 20 1 ?_;refine pz_ 2 39 20 5 ?_;refine pz_ 6 43 20 69 ?_;refine tz12_ 1 38 (bm 20 71) ?_;refine pz_ 3 40 20 79 ?_;refine pz_ 4 41 20 95 ?_;refine tz12_ 5 42 (bm 20 127) ?_;refine tz12_ 7 44 (bm 20 255) ?_;refine pz_ 8 45 20 511 ?_;refine pz_ 9 46 20 1023 ?_;refine pz_ 10 47 20 2047 ?_;refine pz_ 12 49 20 6143 ?_;refine pz_ 16 53 20 71679 ?_;refine tz12_ 11 48 (bm 20 73727) ?_;refine pz_ 13 50 20 81919 ?_;refine pz_ 14 51 20 98303 ?_;refine tz12_ 15 52 (bm 20 131071) ?_;refine tz12_ 17 54 (bm 20 262143) ?_;refine pz_ 18 55 20 524287 ?_;refine pz_ 19 56 20 1048575 ?_
      refine done_ (done_of HT_.out (by kernel_rfl)) ?_
      obtain⟨cG,cH,cI,cJ⟩:=bc2_ l
      have n0:=dt_ a
      have n1:=du_ a c.length
      obtain⟨h4,n2,x2,x3,x4,x5⟩:=at_T72 D.out a (ot_ n0) (ot_ n1)
      obtain rfl:d=h4:=(by injection n2)
      replace x2:=qx_ HB x2
      replace x3:=qx_ HB x3
      replace x4:=qx_ HB x4
      replace x5:=qx_ HB x5
      obtain⟨K5,K6⟩:=nn_ o2;obtain⟨K7,K8⟩:=nn_ i6;obtain⟨K9,L0⟩:=nn_ i7;obtain⟨L1,L2⟩:=nn_ i8
      obtain⟨cK,cL,cM,cN,cO,cP,cQ,cR⟩:=bc4_ E
      try go_wp2
      go_roundg k1
      case measure=>have:=d9.out;have:=HK2.out;omega
      case rel=>exact⟨(wrap64 (a + 1)),(c2),((rd_T72 c a).f0),((rd_T72 c a).f1),((rd_T72 c a).f2),((rd_T72 c a).f3),(a6),qe_,H',⟨by have:=d9.out;have:=HK2.out;omega⟩,⟨by(with_reducible repeat(first|apply Kd.R_alloc|apply Kd.R_drewN|apply Kd.R_drew));exact Kd.R_mono (Kd.R_far (p:=⟨U,3,none⟩) (Kd.R_far (p:=⟨U,2,none⟩) (Kd.R_far (p:=⟨U,1,none⟩) (Kd.R_far (p:=⟨U,0,none⟩) (Kd.R_mono B.out (fun k_ hk=>(⟨hk,hk⟩:_∧k_≠U))) (fun _ hk=>hk.2) (.int .i64 ((rd_T72 c a).f0))) (fun _ hk=>hk.2) (.int .i64 ((rd_T72 c a).f1))) (fun _ hk=>hk.2) (.int .i64 ((rd_T72 c a).f2))) (fun _ hk=>hk.2) (.bool ((rd_T72 c a).f3))) (fun _ hk=>hk.1)⟩,⟨qf_ l⟩,⟨qf_ s⟩,⟨qf_ u⟩,⟨qf_ x⟩,⟨qf_ z⟩,⟨qp_ E⟩,⟨qB_⟩⟩
     have h2:(((rd_T72 c a).f1)==q)=false:=beq_eq_false_iff_ne.mpr c6
     have h3:(((rd_T72 c a).f1) != q)=true:=bne_iff_ne.mpr c6
     refine jg_ H ?_;clear H;intro f5 H
     have h5:=am_ f5
     clear f5
     generalize d0:(c2++[(⟨(rd_T72 c a).f0,(rd_T72 c a).f1,(rd_T72 c a).f2,(rd_T72 c a).f3⟩:S72)])=r8 at H;replace H:=bh_ H;have h6:=am_ d0.symm;clear d0;have H' :=am_ H;clear H;obtain⟨L3,L4⟩:=nn_ i4;obtain⟨L5,L6⟩:=nn_ d7;obtain⟨L7,L8⟩:=nn_ d8;obtain⟨L9,M0⟩:=nn_ e6;obtain⟨M1,M2⟩:=nn_ j8
     obtain⟨cS,cT,cU,cV⟩:=bc2_ l
     try go_wp2
     replace B:=rd_ B;replace l:=bd_ l;replace s:=bd_ s;replace u:=bd_ u;replace x:=bd_ x;replace z:=bd_ z;replace E:=bd_ E;replace HB:=hd_ HB
     have X:=dt_ a
     have Y:=du_ a c.length
     obtain⟨d,a2,a7,a8,a9,b0⟩:=at_T72 D.out a (ot_ X) (ot_ Y)
     have m5:=b0;have m6:=a9;have m7:=a8;have m8:=a7;cases a2
     replace a7:=qx_ HB a7
     replace a8:=qx_ HB a8
     replace a9:=qx_ HB a9
     replace b0:=qx_ HB b0
     have c7:=dt_ a
     have c8:=du_ a c.length
     obtain⟨b3,c9,d3,d4,d5,d6⟩:=at_T72 D.out a (ot_ c7) (ot_ c8)
     have r4:=d6;have r5:=d5;have r6:=d4;have r7:=d3
     obtain rfl:d=b3:=(by injection c9)
     replace d3:=qx_ HB d3
     replace d4:=qx_ HB d4
     replace d5:=qx_ HB d5
     replace d6:=qx_ HB d6
     refine start_ (n:=20) (S:=fun w' =>w'.cell? ⟨V,0,none⟩=some (.int .i64 j)∧w'.cell? ⟨V,1,none⟩=some (.slice (some d) c.length A)∧w'.cell? ⟨a3,0,none⟩=some (.int .i64 m)∧w'.cell? ⟨a3,1,none⟩=some (.int .i64 q)∧w'.cell? (d.add ((a).toNat * 4))=some (.int .i64 ((rd_T72 c a).f0))∧w'.cell? ⟨(d.add ((a).toNat * 4)).block,(d.add ((a).toNat * 4)).off + 1,none⟩=some (.int .i64 ((rd_T72 c a).f1))∧w'.cell? ⟨(d.add ((a).toNat * 4)).block,(d.add ((a).toNat * 4)).off + 2,none⟩=some (.int .i64 ((rd_T72 c a).f2))∧w'.cell? ⟨(d.add ((a).toNat * 4)).block,(d.add ((a).toNat * 4)).off + 3,none⟩=some (.bool ((rd_T72 c a).f3))∧w'.cell? (d.add ((a).toNat * 4))=some (.int .i64 ((rd_T72 c a).f0))∧w'.cell? ⟨(d.add ((a).toNat * 4)).block,(d.add ((a).toNat * 4)).off + 1,none⟩=some (.int .i64 ((rd_T72 c a).f1))∧w'.cell? ⟨(d.add ((a).toNat * 4)).block,(d.add ((a).toNat * 4)).off + 2,none⟩=some (.int .i64 ((rd_T72 c a).f2))∧w'.cell? ⟨(d.add ((a).toNat * 4)).block,(d.add ((a).toNat * 4)).off + 3,none⟩=some (.bool ((rd_T72 c a).f3))) (ds:=[]) (bm 20 0) (by kernel_rfl) rfl (by kernel_rfl) ⟨bl_ l 0,bl_ l 1,bl_ s 0,bl_ s 1,((qx_ HB m8).trans rfl),((qx_ HB m7).trans rfl),((qx_ HB m6).trans rfl),((qx_ HB m5).trans rfl),((qx_ HB r7).trans rfl),((qx_ HB r6).trans rfl),((qx_ HB r5).trans rfl),((qx_ HB r4).trans rfl)⟩ (fun hHeld=> ?_);refine with_tabW spec_WebTake.tab8 spec_WebTake.bits8 (fun HT_ HW_=> ?_)
     generalize wr.drew=r9 at B l s u x z E HB a7 a8 a9 b0 d3 d4 d5 d6 hHeld ⊢
     refine pz_ 0 37 20 1 ?_;refine pz_ 2 39 20 5 ?_;refine pz_ 6 43 20 69 ?_;refine tz12_ 1 38 (bm 20 71) ?_;refine pz_ 3 40 20 79 ?_;refine pz_ 4 41 20 95 ?_;refine tz12_ 5 42 (bm 20 127) ?_;refine tz12_ 7 44 (bm 20 255) ?_;refine pz_ 8 45 20 511 ?_;refine pz_ 9 46 20 1023 ?_;refine pz_ 10 47 20 2047 ?_;refine pz_ 12 49 20 6143 ?_;refine pz_ 16 53 20 71679 ?_;refine tz12_ 11 48 (bm 20 73727) ?_;refine pz_ 13 50 20 81919 ?_;refine pz_ 14 51 20 98303 ?_;refine tz12_ 15 52 (bm 20 131071) ?_;refine tz12_ 17 54 (bm 20 262143) ?_;refine pz_ 18 55 20 524287 ?_;refine pz_ 19 56 20 1048575 ?_
     refine done_ (done_of HT_.out (by kernel_rfl)) ?_
     try go_wp2
     replace B:=rd_ B;replace l:=bd_ l;replace s:=bd_ s;replace u:=bd_ u;replace x:=bd_ x;replace z:=bd_ z;replace E:=bd_ E;replace HB:=hd_ HB
     have e1:=dt_ a
     have e3:=du_ a c.length
     obtain⟨h7,n3,k5,k6,k7,k8⟩:=at_T72 D.out a (ot_ e1) (ot_ e3)
     have j1:=k8;have j2:=k7;have j3:=k6;have j4:=k5
     obtain rfl:d=h7:=(by injection n3)
     replace k5:=qx_ HB k5
     replace k6:=qx_ HB k6
     replace k7:=qx_ HB k7
     replace k8:=qx_ HB k8
     refine start_ (n:=11) (S:=fun w' =>w'.cell? ⟨T,0,none⟩=some (.int .i64 j)∧w'.cell? ⟨T,1,none⟩=some (a6)∧w'.cell? ⟨V,0,none⟩=some (.int .i64 j)∧w'.cell? ⟨V,1,none⟩=some (.slice (some d) c.length A)∧w'.cell? (d.add ((a).toNat * 4))=some (.int .i64 ((rd_T72 c a).f0))∧w'.cell? ⟨(d.add ((a).toNat * 4)).block,(d.add ((a).toNat * 4)).off + 1,none⟩=some (.int .i64 ((rd_T72 c a).f1))∧w'.cell? ⟨(d.add ((a).toNat * 4)).block,(d.add ((a).toNat * 4)).off + 2,none⟩=some (.int .i64 ((rd_T72 c a).f2))∧w'.cell? ⟨(d.add ((a).toNat * 4)).block,(d.add ((a).toNat * 4)).off + 3,none⟩=some (.bool ((rd_T72 c a).f3))) (ds:=[10]) (bm 11 0) (by kernel_rfl) rfl (by kernel_rfl) ⟨bl_ z 0,bl_ z 1,bl_ l 0,bl_ l 1,((qx_ HB j4).trans rfl),((qx_ HB j3).trans rfl),((qx_ HB j2).trans rfl),((qx_ HB j1).trans rfl)⟩ (fun hHeld=> ?_);refine with_tabW spec_WebTake.tab10 spec_WebTake.bits10 (fun HT_ HW_=> ?_)
     generalize r9.drew=M3 at B l s u x z E HB k5 k6 k7 k8 hHeld ⊢
     refine pz_ 0 62 11 1 ?_;refine pz_ 2 64 11 5 ?_;refine pz_ 4 66 11 21 ?_;refine tz8_ 1 63 11 23 ?_;refine tz8_ 3 65 11 31 ?_;refine pz_ 5 67 11 63 ?_;refine tz8_ 6 68 11 127 ?_
     refine o1_ 7 (some 69) 11 255 (fun K hK=> ?_)
     refine value_ (w1:= ?_) (v:= ?_) (by rfl) rfl ?_ ?_
     rotate_left 2
     ·go_simp
      constructor
      ·rfl
      rfl
     refine hK.out _ _ ⟨(blk_cell (blk_alloc z.out _) 0).trans rfl,(blk_cell (blk_alloc z.out _) 1).trans rfl,(blk_cell (blk_alloc l.out _) 0).trans rfl,(blk_cell (blk_alloc l.out _) 1).trans rfl,(World.cell?_alloc_lt _ _ _ (World.block_lt_of_cell? _ _ (((qx_ HB j4).trans rfl)))).trans (((qx_ HB j4).trans rfl)),(World.cell?_alloc_lt _ _ _ (World.block_lt_of_cell? _ _ (((qx_ HB j3).trans rfl)))).trans (((qx_ HB j3).trans rfl)),(World.cell?_alloc_lt _ _ _ (World.block_lt_of_cell? _ _ (((qx_ HB j2).trans rfl)))).trans (((qx_ HB j2).trans rfl)),(World.cell?_alloc_lt _ _ _ (World.block_lt_of_cell? _ _ (((qx_ HB j1).trans rfl)))).trans (((qx_ HB j1).trans rfl))⟩ (fun hHeld=> ?_)
     clear hK K
     refine nm_ 69 ?_
     refine o1_ 8 (some 70) 11 511 (fun K hK=> ?_)
     refine Kd.R_append_step k72 (w0:=w) w.heap.size (by rfl) (.tmp 63) (.tmp 69) 27 72 (.agg #[(.int .i64 0),(.int .i64 0),(.int .i64 0),(.bool false)]) 32 rfl Try.underlying27 info72 rfl (by decide) (by omega) a6 c2 (⟨(rd_T72 c a).f0,(rd_T72 c a).f1,(rd_T72 c a).f2,(rd_T72 c a).f3⟩:S72) [.int .i64 ((rd_T72 c a).f0),.int .i64 ((rd_T72 c a).f1),.int .i64 ((rd_T72 c a).f2),.bool ((rd_T72 c a).f3)] (fun k_=>k_≠U) (fun _=>False) rfl rfl ?aP (fun _ hk=>hk.elim) ?aF ?aO ?aB ?aS ?aL ?_
     (case aP=>exact k72_mkM _ _ _ (⟨(rd_T72 c a).f0,(rd_T72 c a).f1,(rd_T72 c a).f2,(rd_T72 c a).f3⟩:S72))
     (case aB=>exact qB_)
     (case aF=>exact(fun k_ hk=>Kd.freshB (qk_ E) k_ hk))
     (case aO=>exact(qR_ B))
     (case aS=>exact(below_size qB_))
     (case aL=>have:=h5.out;omega)
     intro M4 s0 ho hb hg hat
     rw[←h6.out]at ho
     have x6:=am_ (ho);replace l:=am_ (blk_grown (qk_ l) hg (Kd.R_ne B.out l.out (by decide)));replace s:=am_ (blk_grown (qk_ s) hg (Kd.R_ne B.out s.out (by decide)));replace u:=am_ (blk_grown (qk_ u) hg (Kd.R_ne B.out u.out (by decide)));replace x:=am_ (blk_grown (qk_ x) hg (Kd.R_ne B.out x.out (by decide)));replace z:=am_ (blk_grown (qk_ z) hg (Kd.R_ne B.out z.out (by decide)));replace E:=am_ (blk_grown (qk_ E) hg (Kd.R_away B.out (fun _ hk=>hk)));replace HB:=am_ (hb);clear B ho hb hg hat
     obtain⟨x7,x8,x9⟩:=Kd.R_slice x6.out
     (first|subst x9|(injection x9 with a0 b9 a1;have c0:=a0.symm;have c1:=a1.symm;clear a0 b9 a1;subst c0;subst c1))
     refine hK.out _ _ ⟨bl_ z 0,bl_ z 1,bl_ l 0,bl_ l 1,((qx_ HB j4).trans rfl),((qx_ HB j3).trans rfl),((qx_ HB j2).trans rfl),((qx_ HB j1).trans rfl)⟩ (fun hHeld=> ?_)
     clear hK K
     refine nm_ 70 ?_
     refine pz_ 9 71 11 1023 ?_
     refine last_ (i:=10) (N:=none) (bm 11 2047) rfl rfl (one_of HT_.out (by kernel_rfl)) (by decide) (fun K hK=> ?_)
     have y0:s0.cell? ⟨T,1,none⟩=some (a6):=bl_ z 1
     have s1:=blk_frozen z.out 1
     have cW:=e6.out;have cX:=t0.out;have cY:=o0.out;have cZ:=o1.out;have da:=i8.out;have db:=i5.out;have dc:=e7.out;have dd:=b5.out;have de:=b6.out;have df:=j9.out
     refine skip_ (w1:= ?_) (by rfl) rfl ?_ ?_
     rotate_left
     ·go_simp
      rfl
     refine hK.out _ _ ?_
     clear hK K
     refine done_ (done_of HT_.out (by kernel_rfl)) ?_
     try go_wp2
     go_roundg k1
     case measure=>have:=d9.out;have:=HK2.out;omega
     case rel=>exact⟨(wrap64 (a + 1)),(r8),(e8),(e9),(e0),(k0),(.slice x7 r8.length x8),qe_,H',⟨by have:=d9.out;have:=HK2.out;omega⟩,⟨by(with_reducible repeat(first|apply Kd.R_alloc|apply Kd.R_drewN|apply Kd.R_drew));exact Kd.R_mono (Kd.R_far (p:=⟨T,1,none⟩) (Kd.R_types x6.out z.out (by decide)) (fun _ hk=>hk.2) (.slice x7 r8.length x8)) (fun _ hk=>hk.1)⟩,⟨qf_ l⟩,⟨qf_ s⟩,⟨qf_ u⟩,⟨qf_ x⟩,⟨qp_ z⟩,⟨qf_ E⟩,⟨qB_⟩⟩
end Go.Proofs.Ytbkklafkoegdpaa.QFnTakes

import Derived.Test.YtbkklafkoegdpaaQFnTakesx7
import Derived.Test.YtbkklafkoegdpaaQFnTakesx20
import Derived.Test.YtbkklafkoegdpaaQFnTakesx21
namespace Go.Proofs.Ytbkklafkoegdpaa.QFnTakes
open Go.RowKit Go.Proofs.YtbkklafkoegdpaaW.PrintWords Go.Proofs.YtbkklafkoegdpaaW.PrintLast Go.Proofs.YtbkklafkoegdpaaW.PrintMore
set_option maxHeartbeats 8000000
set_option maxRecDepth 100000
set_option linter.unusedVariables false
set_option linter.unusedSimpArgs false
mutual
def impl_WebTake.j0:Nat→Bool→Int→List (S72)→Int→Int→Option (Int × (List (S72)) × Int × Int × Bool × Bool)
  |0,_,_,_,_,_=>none
  |k + 1,x24,x492000,x492001,x493000,x493001=>if x24=true then (some (0,([]:List (S72)),0,0,false,false)) else (impl_WebTake.l0 k x492001 (x492001.length:Int) 0 x493000 x493001 x492000 ([]:List (S72)) 0 0 0 false)
def impl_WebTake.l0:Nat→List (S72)→Int→Int→Int→Int→Int→List (S72)→Int→Int→Int→Bool→Option (Int × (List (S72)) × Int × Int × Bool × Bool)
  |0,_,_,_,_,_,_,_,_,_,_,_=>none
  |k + 1,x31,x32,x33,x493000,x493001,x502000,x502001,x503000,x503001,x503002,x503003=>if x33<x32 then (if 0≤x33 then (if x33<(x31.length:Int) then (if ((rd_T72 x31 x33).f0)=x493000 then (if ((rd_T72 x31 x33).f1)=x493001 then (impl_WebTake.l0 k x31 x32 (wrap64 (x33 + 1)) x493000 x493001 x502000 x502001 ((rd_T72 x31 x33).f0) ((rd_T72 x31 x33).f1) ((rd_T72 x31 x33).f2) ((rd_T72 x31 x33).f3)) else (if x502001.length<4398046511104 then (impl_WebTake.l0 k x31 x32 (wrap64 (x33 + 1)) x493000 x493001 x502000 (x502001++[(⟨(rd_T72 x31 x33).f0,(rd_T72 x31 x33).f1,(rd_T72 x31 x33).f2,(rd_T72 x31 x33).f3⟩:S72)]) x503000 x503001 x503002 x503003) else (none))) else (if x502001.length<4398046511104 then (impl_WebTake.l0 k x31 x32 (wrap64 (x33 + 1)) x493000 x493001 x502000 (x502001++[(⟨(rd_T72 x31 x33).f0,(rd_T72 x31 x33).f1,(rd_T72 x31 x33).f2,(rd_T72 x31 x33).f3⟩:S72)]) x503000 x503001 x503002 x503003) else (none))) else (none)) else (none)) else (impl_WebTake.l1 k x503002 x493000 x493001 x502000 x502001 x503000 x503001 x503002 x503003)
def impl_WebTake.l1:Nat→Int→Int→Int→Int→List (S72)→Int→Int→Int→Bool→Option (Int × (List (S72)) × Int × Int × Bool × Bool)
  |0,_,_,_,_,_,_,_,_,_=>none
  |k + 1,x12,x493000,x493001,x502000,x502001,x503000,x503001,x503002,x503003=>if x12≥0 then (impl_WebTake.j3 k x12 x503003 x493000 x493001 x502000 x502001 x503000 x503001 x503002 x503003) else (impl_WebTake.j3 k x12 false x493000 x493001 x502000 x502001 x503000 x503001 x503002 x503003)
def impl_WebTake.j3:Nat→Int→Bool→Int→Int→Int→List (S72)→Int→Int→Int→Bool→Option (Int × (List (S72)) × Int × Int × Bool × Bool)
  |0,_,_,_,_,_,_,_,_,_,_=>none
  |k + 1,x12,x64,x493000,x493001,x502000,x502001,x503000,x503001,x503002,x503003=>if x64=true then ((impl_Web_look.f k x502000 x502001 x493000 x493001 x12).bind fun bt511=>(if bt511.2.2.1=true then (some (x502000,bt511.2.2.2,bt511.1,bt511.2.1,true,true)) else (impl_WebTake.l1 k (wrap64 (x12 - 1)) x493000 x493001 x502000 bt511.2.2.2 x503000 x503001 x503002 x503003))) else (some (x502000,x502001,0,0,false,true))
end
def impl_WebTake.f (k:Nat) (a0_0:Int) (l0_1:List (S72)) (a1_0:Int) (a1_1:Int):Option (Int × (List (S72)) × Int × Int × Bool × Bool):=(impl_WebOk.f k a0_0 l0_1).bind fun t495=>(if t495=true then ((impl_GraphOf.f k a0_0 l0_1).bind fun bt496=>((impl_HasEdge.f k bt496.1 bt496.2 a1_0 a1_1).bind fun t500=>(impl_WebTake.j0 k (!t500) a0_0 l0_1 a1_0 a1_1))) else (impl_WebTake.j0 k true a0_0 l0_1 a1_0 a1_1))
def impl_WebTake.T1:Bool × List (List Nat × List Nat):=(true,[([],[]),([0],[0]),([1],[1]),([2,1],[2]),([3],[3]),([4,3,3],[3,4]),([3],[3]),([5,6,5,3],[3,5,6]),([7,3],[3,7]),([3,8],[3,8])])
def impl_WebTake.B1:List Nat:=[0,1,3,7,15,31,15,127,255,511]
theorem impl_WebTake.tab1:rtab .any (opsOf Try.f42 1)=impl_WebTake.T1:=by kernel_rfl
theorem impl_WebTake.bits1:waitsOk impl_WebTake.T1.2 impl_WebTake.B1=true:=by kernel_rfl
theorem impl_WebTake.calls (k:Nat) (d:Int) (A:Option Addr) (z:Nat) (c:List (S72)) (l:Int) (m:Int) (e0:Int) (e1:List (S72)) (e2:Int) (e3:Int) (e4:Bool) (e5:Bool) (w:World) (hr0_1:Kd.C k72 w A c.length c) (hc0_1:c.length≤z) (h:impl_WebTake.f k d c l m=some (e0,e1,e2,e3,e4,e5)):
  Calls Try.prog 42 #[.agg #[.int .i64 d,.slice A c.length z],.agg #[.int .i64 l,.int .i64 m]] w fun e w' =>∃ h3:Value,e= .returned (.tuple #[.agg #[.int .i64 e0,h3],.agg #[.int .i64 e2,.int .i64 e3],.bool e4,.bool e5])∧Kd.R k72 72 w' w.heap.size (fun _=>True) h3 e1∧Below w.heap.size w w' :=by
 have hu29:=Try.underlying29;have hu43:=Try.underlying43;have hu72:=Try.underlying72
 have M:=am_ hr0_1
 have a4:=am_ hc0_1
 clear hr0_1 hc0_1
 have HB:=am_ (Below.refl w.heap.size w)
 have H:((impl_WebOk.f k d c).bind fun z5=>(if z5=true then ((impl_GraphOf.f k d c).bind fun z6=>((impl_HasEdge.f k z6.1 z6.2 l m).bind fun u5=>(impl_WebTake.j0 k (!u5) d c l m))) else (impl_WebTake.j0 k true d c l m)))=some (e0,e1,e2,e3,e4,e5):=h
 clear h
 have n6:=am_ H
 clear H
 go_enter Try.func42,Try.ntmps42
 go_upto_region 1 with (first|((with_reducible refine gd_ 2 ?_);refine by_ 2 (cs:= #[.int .i64 d,.slice A c.length z]) (t:=29) ?_;intro a5 hg S0 j hb;have z7:=gw_ hg;replace HB:=hs_ hb;clear hb hg)|((with_reducible refine gd_ 3 ?_);refine by_ 3 (cs:= #[.int .i64 l,.int .i64 m]) (t:=43) ?_;intro b9 hg S1 q hb;have z8:=gw_ hg;obtain⟨u6,h4⟩:=qn_ j hg;replace j:=qbl_ j hb;replace HB:=hs_ hb;clear hb hg)|((with_reducible refine gd_ 4 ?_);refine by_ 4 (cs:= #[.int .i64 0,.slice none 0 0]) (t:=29) ?_;intro I hg S2 s hb;have z9:=gw_ hg;obtain⟨n7,m6⟩:=qn_ j hg;obtain⟨e6,m7⟩:=qn_ q hg;replace j:=qbl_ j hb;replace q:=qbl_ q hb;replace HB:=hs_ hb;clear hb hg)|((with_reducible refine gd_ 5 ?_);refine by_ 5 (cs:= #[.int .i64 0,.int .i64 0]) (t:=43) ?_;intro J hg A0 u hb;have A1:=gw_ hg;obtain⟨n8,m8⟩:=qn_ j hg;obtain⟨e7,m9⟩:=qn_ q hg;obtain⟨g8,n0⟩:=qn_ s hg;replace j:=qbl_ j hb;replace q:=qbl_ q hb;replace s:=qbl_ s hb;replace HB:=hs_ hb;clear hb hg))
 (try simp only[Act.put,sA_,sB_,sC_])
 go_cut [24] (fun v24 wc=>∃ (kq:Nat) (a6:Bool),v24= .bool a6∧Aside0 (impl_WebTake.j0 kq a6 d c l m=some (e0,e1,e2,e3,e4,e5))∧Aside0 (kq≤k)∧Aside0 (wc.heap[a5]? =some (.cells #[.int .i64 d,(.slice A c.length z)] 29 (0,0)))∧Aside0 (wc.heap[b9]? =some (.cells #[.int .i64 l,.int .i64 m] 43 (0,0)))∧Aside0 (wc.heap[I]? =some (.cells #[.int .i64 0,(.slice none 0 0)] 29 (0,0)))∧Aside0 (wc.heap[J]? =some (.cells #[.int .i64 0,.int .i64 0] 43 (0,0)))∧Aside0 (Below w.heap.size w wc))
 case first=>
  have H:=n6.out;clear n6
  obtain⟨z5,A2,H⟩:=bs_ H
  refine id_ H ?_ ?_<;>clear H<;>rintro rfl H
  ·have H' :=am_ H;clear H
   try go_wp2
   replace j:=bd_ j;replace q:=bd_ q;replace s:=bd_ s;replace u:=bd_ u;replace HB:=hd_ HB
   refine start_ (n:=10) (S:=fun w' =>w'.cell? ⟨a5,0,none⟩=some (.int .i64 d)∧w'.cell? ⟨a5,1,none⟩=some (.slice A c.length z)) (ds:=[]) (bm 10 0) (by kernel_rfl) rfl (by kernel_rfl) ⟨bl_ j 0,bl_ j 1⟩ (fun hHeld=> ?_);refine with_tabW impl_WebTake.tab1 impl_WebTake.bits1 (fun HT_ HW_=> ?_)
   generalize A0.drew=K8 at j q s u HB hHeld ⊢
   refine tz2_ 0 15 10 1 ?_
   refine o1_ 1 (some 16) 10 3 (fun K hK=> ?_)
   refine gs_ Try.func16 #[.agg #[.int .i64 d,.slice A c.length z]] ?_
   with_reducible refine(impl_WebOk.calls k d _ _ c false _ ?side1 ?side2 A2.out).mono ?_
   (case side1=>exact qC_ M HB)
   (case side2=>exact a4.out)
   rintro e K9 ⟨rfl,hb⟩
   refine⟨_,rfl,?_⟩
   replace j:=qbl_ j hb;replace q:=qbl_ q hb;replace s:=qbl_ s hb;replace u:=qbl_ u hb;replace HB:=hs_ hb;clear hb
   refine hK.out _ _ ⟨bl_ j 0,bl_ j 1⟩ (fun hHeld=> ?_)
   clear hK K
   refine nm_ 16 ?_
   refine pz_ 2 17 10 7 ?_;refine pz_ 3 18 10 15 ?_
   refine pu_ 4 19 10 31 ?_
   refine pu_ 5 20 10 63 ?_
   refine pu_ 6 21 10 127 ?_
   refine pu_ 7 22 10 255 ?_
   refine pu_ 8 23 10 511 ?_
   refine pz_ 9 24 10 1023 ?_
   refine done_ (done_of HT_.out (by kernel_rfl)) ?_
   try go_wp2
   go_meet
   case rel=>exact⟨_,(true),qe_,H',⟨qo_⟩,⟨qk_ j⟩,⟨qk_ q⟩,⟨qk_ s⟩,⟨qk_ u⟩,⟨qB_⟩⟩
  obtain⟨⟨n9,o0⟩,o1,H⟩:=bs_ H;dsimp only at H
  obtain⟨u5,o2,H⟩:=bs_ H
  have H' :=am_ H;clear H
  try go_wp2
  replace j:=bd_ j;replace q:=bd_ q;replace s:=bd_ s;replace u:=bd_ u;replace HB:=hd_ HB
  refine start_ (n:=10) (S:=fun w' =>w'.cell? ⟨a5,0,none⟩=some (.int .i64 d)∧w'.cell? ⟨a5,1,none⟩=some (.slice A c.length z)∧w'.cell? ⟨b9,0,none⟩=some (.int .i64 l)∧w'.cell? ⟨b9,1,none⟩=some (.int .i64 m)) (ds:=[]) (bm 10 0) (by kernel_rfl) rfl (by kernel_rfl) ⟨bl_ j 0,bl_ j 1,bl_ q 0,bl_ q 1⟩ (fun hHeld=> ?_);refine with_tabW impl_WebTake.tab1 impl_WebTake.bits1 (fun HT_ HW_=> ?_)
  generalize A0.drew=L0 at j q s u HB hHeld ⊢
  refine tz4_ 0 15 10 1 ?_
  refine o1_ 1 (some 16) 10 3 (fun K hK=> ?_)
  refine gs_ Try.func16 #[.agg #[.int .i64 d,.slice A c.length z]] ?_
  with_reducible refine(impl_WebOk.calls k d _ _ c true _ ?side1 ?side2 A2.out).mono ?_
  (case side1=>exact qC_ M HB)
  (case side2=>exact a4.out)
  rintro e L1 ⟨rfl,hb⟩
  refine⟨_,rfl,?_⟩
  replace j:=qbl_ j hb;replace q:=qbl_ q hb;replace s:=qbl_ s hb;replace u:=qbl_ u hb;replace HB:=hs_ hb;clear hb
  refine hK.out _ _ ⟨bl_ j 0,bl_ j 1,bl_ q 0,bl_ q 1⟩ (fun hHeld=> ?_)
  clear hK K
  refine nm_ 16 ?_
  refine pz_ 2 17 10 7 ?_;refine pz_ 3 18 10 15 ?_;refine tz4_ 4 19 10 31 ?_;refine tz4_ 6 21 10 95 ?_
  refine o1_ 5 (some 20) 10 127 (fun K hK=> ?_)
  refine gs_ Try.func63 #[.agg #[.int .i64 d,.slice A c.length z]] ?_
  with_reducible refine(impl_GraphOf.calls k d _ _ c n9 o0 _ ?side1 ?side2 o1.out).mono ?_
  (case side1=>exact qC_ M HB)
  (case side2=>exact a4.out)
  rintro e L2 ⟨L3,rfl,ho0,hb⟩
  refine⟨_,rfl,?_⟩
  have h5:=am_ (Kd.R_lower (Kd.R_newB (Kd.R_newB ho0 (qk_ q)) (qk_ u)) (below_size qB_));replace j:=qbl_ j hb;replace q:=qbl_ q hb;replace s:=qbl_ s hb;replace u:=qbl_ u hb;replace HB:=hs_ hb;clear hb ho0
  obtain⟨L4,L5,A3⟩:=Kd.R_slice h5.out
  (first|subst A3|(injection A3 with h6 o3 h7;have o4:=h6.symm;have o5:=h7.symm;clear h6 o3 h7;subst o4;subst o5))
  refine hK.out _ _ ⟨bl_ j 0,bl_ j 1,bl_ q 0,bl_ q 1⟩ (fun hHeld=> ?_)
  clear hK K
  refine nm_ 20 ?_
  refine o1_ 7 (some 22) 10 255 (fun K hK=> ?_)
  refine gs_ Try.func94 #[.agg #[.int .i64 n9,.slice L4 o0.length L5],.agg #[.int .i64 l,.int .i64 m]] ?_
  with_reducible refine(impl_HasEdge.calls k n9 _ _ o0 l m u5 _ ?side1 ?side2 o2.out).mono ?_
  (case side1=>exact qD_ (Kd.R_reads' h5.out).2.2)
  (case side2=>exact(Kd.R_reads' h5.out).2.1)
  rintro e L6 ⟨rfl,hb⟩
  refine⟨_,rfl,?_⟩
  replace h5:=kb_ h5 hb;replace j:=qbl_ j hb;replace q:=qbl_ q hb;replace s:=qbl_ s hb;replace u:=qbl_ u hb;replace HB:=hs_ hb;clear hb
  refine hK.out _ _ ⟨bl_ j 0,bl_ j 1,bl_ q 0,bl_ q 1⟩ (fun hHeld=> ?_)
  clear hK K
  refine nm_ 22 ?_
  refine pz_ 8 23 10 511 ?_;refine pz_ 9 24 10 1023 ?_
  refine done_ (done_of HT_.out (by kernel_rfl)) ?_
  try go_wp2
  go_meet
  case rel=>exact⟨_,(!u5),qe_,H',⟨qo_⟩,⟨qk_ j⟩,⟨qk_ q⟩,⟨qk_ s⟩,⟨qk_ u⟩,⟨qB_⟩⟩
 case rest=>
  clear n6
  obtain⟨kq,a6,rfl,HA,c8,j,q,s,u,HB⟩:=hcut
  cases kq with
  |zero=>exact absurd HA.out (by simp [impl_WebTake.j0])
  |succ kj2=>
   have H:=HA.out;clear HA
   simp only[impl_WebTake.j0]at H
   refine ie_ H ?_ ?_<;>clear H<;>rintro rfl H
   ·simp only[Option.some.injEq,Prod.mk.injEq]at H
    obtain⟨rfl,rfl,rfl,rfl,rfl,rfl⟩:=H
    obtain⟨S3,T3⟩:=nn_ m6;obtain⟨T4,T5⟩:=nn_ m7;obtain⟨T6,S4⟩:=nn_ g8
    obtain⟨p0,p1,p2,p3⟩:=bc2_ s
    obtain⟨T8,T9⟩:=nn_ m8;obtain⟨S5,S6⟩:=nn_ m9
    obtain⟨p4,p5,p6,p7⟩:=bc2_ u
    go_wp2
    refine bodyPost_ret (results_list (rs:=[.cell 4 29,.cell 5 43,.tmp 6,.tmp 7]) rfl (by simp) (.cell I 29 #[.int .i64 0,.slice none 0 0] (0,0) _ rfl (qp_ s) Try.underlying29 rfl (by kernel_rfl) (.cell J 43 #[.int .i64 0,.int .i64 0] (0,0) _ rfl (qp_ u) Try.underlying43 rfl (by kernel_rfl) (.tmp (.tmp .nil))))) rfl ?_
    exact⟨_,qr_,by first|exact Kd.R_nil _ _ _ _ _|exact Kd.N_nil _ _ _ _ _|exact Kd.V_nil _ _ _ _ _|exact Kd.Q_nil _ _ _ _ _|exact Kd.S_nil _ _ _ _ _,qB_⟩
   have H' :=am_ H;clear H;obtain⟨S7,S8⟩:=nn_ u6;obtain⟨S9,T0⟩:=nn_ n7;obtain⟨T2,T7⟩:=nn_ n8
   obtain⟨p8,p9,q0,l2⟩:=bc2_ j
   go_wp2_with (first|((with_reducible refine gd_ 8 ?_);refine by_ 8 (cs:= #[.int .i64 0,.slice none 0 0]) (t:=29) ?_;intro X hg L7 y hb;have A4:=gw_ hg;obtain⟨U0,n1⟩:=qn_ j hg;obtain⟨h8,A5⟩:=qn_ q hg;obtain⟨A6,c9⟩:=qn_ s hg;obtain⟨A7,d0⟩:=qn_ u hg;replace j:=qbl_ j hb;replace q:=qbl_ q hb;replace s:=qbl_ s hb;replace u:=qbl_ u hb;replace HB:=hs_ hb;clear hb hg;obtain⟨U1,U2⟩:=nn_ n1;obtain⟨U3,U4⟩:=nn_ A5;obtain⟨U5,U6⟩:=nn_ c9;obtain⟨U7,U8⟩:=nn_ d0;obtain⟨l3,q1,q2,q3⟩:=bc2_ y)|((with_reducible refine gd_ 9 ?_);refine by_ 9 (cs:= #[.int .i64 0,.int .i64 0,.int .i64 0,.bool false]) (t:=72) ?_;intro G hg L8 B hb;have A8:=gw_ hg;have u7:=am_ ((by rw[hg];exact Nat.ne_of_lt (blk_lt (g:=a5) (o:= .cells #[.int .i64 d,.slice A c.length z] 29 (0,0)) (qf_ j)):a5≠G));have q4:=am_ ((by rw[hg];exact Nat.ne_of_gt (blk_lt (g:=a5) (o:= .cells #[.int .i64 d,.slice A c.length z] 29 (0,0)) (qf_ j)):G≠a5));have h9:=am_ ((by rw[hg];exact Nat.ne_of_lt (blk_lt (g:=b9) (o:= .cells #[.int .i64 l,.int .i64 m] 43 (0,0)) (qf_ q)):b9≠G));have A9:=am_ ((by rw[hg];exact Nat.ne_of_gt (blk_lt (g:=b9) (o:= .cells #[.int .i64 l,.int .i64 m] 43 (0,0)) (qf_ q)):G≠b9));have q5:=am_ ((by rw[hg];exact Nat.ne_of_lt (blk_lt (g:=I) (o:= .cells #[.int .i64 0,.slice none 0 0] 29 (0,0)) (qf_ s)):I≠G));have i0:=am_ ((by rw[hg];exact Nat.ne_of_gt (blk_lt (g:=I) (o:= .cells #[.int .i64 0,.slice none 0 0] 29 (0,0)) (qf_ s)):G≠I));have q6:=am_ ((by rw[hg];exact Nat.ne_of_lt (blk_lt (g:=J) (o:= .cells #[.int .i64 0,.int .i64 0] 43 (0,0)) (qf_ u)):J≠G));have i1:=am_ ((by rw[hg];exact Nat.ne_of_gt (blk_lt (g:=J) (o:= .cells #[.int .i64 0,.int .i64 0] 43 (0,0)) (qf_ u)):G≠J));have q7:=am_ ((by rw[hg];exact Nat.ne_of_lt (blk_lt (g:=X) (o:= .cells #[.int .i64 d,.slice none 0 0] 29 (0,0)) (qp_ y)):X≠G));have q8:=am_ ((by rw[hg];exact Nat.ne_of_gt (blk_lt (g:=X) (o:= .cells #[.int .i64 d,.slice none 0 0] 29 (0,0)) (qp_ y)):G≠X));replace j:=qbl_ j hb;replace q:=qbl_ q hb;replace s:=qbl_ s hb;replace u:=qbl_ u hb;replace y:=am_ (blk_below (g:=X) (o:= .cells #[.int .i64 d,.slice none 0 0] 29 (0,0)) (qp_ y) hb);replace HB:=hs_ hb;clear hb hg;obtain⟨U9,V0⟩:=nn_ u7;obtain⟨q9,r0,r1,r2⟩:=bc2_ j))
   go_loopg [33] kj2 (fun kq v33 w' =>∃ (a:Int) (d5:List (S72)) (b6:Int) (b7:Int) (a7:Int) (a8:Bool) (a9:Value),v33= .int .i64 a∧Aside0 (impl_WebTake.l0 kq c (c.length:Int) a l m d d5 b6 b7 a7 a8=some (e0,e1,e2,e3,e4,e5))∧Aside0 (kq≤kj2)∧Aside0 (Kd.R k72 72 w' w.heap.size (fun k_=>k_≠G) a9 d5)∧Aside0 (w'.heap[a5]? =some (.cells #[.int .i64 d,(.slice A c.length z)] 29 (0,0)))∧Aside0 (w'.heap[b9]? =some (.cells #[.int .i64 l,.int .i64 m] 43 (0,0)))∧Aside0 (w'.heap[I]? =some (.cells #[.int .i64 0,(.slice none 0 0)] 29 (0,0)))∧Aside0 (w'.heap[J]? =some (.cells #[.int .i64 0,.int .i64 0] 43 (0,0)))∧Aside0 (w'.heap[X]? =some (.cells #[.int .i64 d,a9] 29 (0,0)))∧Aside0 (w'.heap[G]? =some (.cells #[.int .i64 b6,.int .i64 b7,.int .i64 a7,.bool a8] 72 (0,0)))∧Aside0 (Below w.heap.size w w'))
   case atStart=>exact⟨(0),(([]:List (S72))),(0),(0),(0),(false),(.slice none 0 0),qe_,H',⟨Nat.le_refl _⟩,⟨by first|exact Kd.R_nil _ _ _ _ _|exact Kd.N_nil _ _ _ _ _|exact Kd.V_nil _ _ _ _ _|exact Kd.Q_nil _ _ _ _ _|exact Kd.S_nil _ _ _ _ _⟩,⟨qk_ j⟩,⟨qk_ q⟩,⟨qk_ s⟩,⟨qk_ u⟩,⟨qk_ y⟩,⟨qk_ B⟩,⟨qB_⟩⟩
   case round=>
    clear H' p8 p9 l3 q1 q9 r0 q0 l2 q2 q3 r1 r2
    obtain⟨a,d5,b6,b7,a7,a8,a9,rfl,HA,HK2,x,j,q,s,u,y,B,HB⟩:=hrel
    cases gk with
    |zero=>exact absurd HA.out (by simp [impl_WebTake.l0])
    |succ k1=>
     have H:=HA.out;clear HA
     simp only[impl_WebTake.l0]at H
     refine ic_ H ?_ ?_<;>clear H<;>intro c1 H
     ·refine ig_ H ?_;clear H;intro c2 H
      refine ig_ H ?_;clear H;intro c3 H
      refine jb_ H ?_ ?_<;>clear H<;>intro b0 H
      ·have b1:(((rd_T72 c a).f0)==l)=false:=beq_eq_false_iff_ne.mpr b0
       have b2:(((rd_T72 c a).f0) != l)=true:=bne_iff_ne.mpr b0
       refine jg_ H ?_;clear H;intro d6 H
       have e9:=am_ d6
       clear d6
       generalize c4:(d5++[(⟨(rd_T72 c a).f0,(rd_T72 c a).f1,(rd_T72 c a).f2,(rd_T72 c a).f3⟩:S72)])=r3 at H;replace H:=bh_ H;have f4:=am_ c4.symm;clear c4;have H' :=am_ H;clear H
       have T:=dt_ a
       have U:=du_ a c.length
       obtain⟨Y,a2,d1,d2,d3,d4⟩:=at_T72 M.out a (ot_ T) (ot_ U)
       cases a2
       replace d1:=qx_ HB d1
       replace d2:=qx_ HB d2
       replace d3:=qx_ HB d3
       replace d4:=qx_ HB d4
       go_wp2_with (first|((with_reducible refine gd_ 11 ?_);refine by_ 11 (cs:= #[.int .i64 0,.int .i64 0,.int .i64 0,.bool false]) (t:=72) ?_;intro O hg L9 c5 hb;have B7:=gw_ hg;obtain⟨C0,k2⟩:=qn_ j hg;obtain⟨j1,k3⟩:=qn_ q hg;obtain⟨j2,k4⟩:=qn_ s hg;obtain⟨j4,k5⟩:=qn_ u hg;obtain⟨C1,k6⟩:=qn_ y hg;obtain⟨C2,k7⟩:=qn_ B hg;replace x:=am_ (Kd.R_below (Kd.R_elderB (qR_ x) O (Nat.le_of_eq hg.symm)) hb);replace j:=qbl_ j hb;replace q:=qbl_ q hb;replace s:=qbl_ s hb;replace u:=qbl_ u hb;replace y:=qbl_ y hb;replace B:=qbl_ B hb;replace HB:=hs_ hb;clear hb hg;obtain⟨V1,V2⟩:=nn_ k2;obtain⟨V3,V4⟩:=nn_ k3;obtain⟨V5,V6⟩:=nn_ k4;obtain⟨V7,V8⟩:=nn_ k5;obtain⟨V9,W0⟩:=nn_ k6;obtain⟨W1,W2⟩:=nn_ k7;obtain⟨C3,C4,C5,C6,C7,C8,C9,D0⟩:=bc4_ c5;obtain⟨W3,W4⟩:=nn_ h4;obtain⟨W5,W6⟩:=nn_ e6;obtain⟨W7,W8⟩:=nn_ e7;obtain⟨W9,X0⟩:=nn_ h8;obtain⟨X1,X2⟩:=nn_ h9;obtain⟨D1,D2,D3,D4⟩:=bc2_ q;obtain⟨X3,X4⟩:=nn_ n1;obtain⟨X5,X6⟩:=nn_ c9;obtain⟨X7,X8⟩:=nn_ d0;obtain⟨X9,Y0⟩:=nn_ q7;obtain⟨D5,D6,D7,D8⟩:=bc2_ y)|((with_reducible refine gate_builtin (b:= .append) (xs:= #[.tmp 51,.tmp 53]) rfl ?_);at_builtin;refine Kd.R_append k72 (w0:=w) w.heap.size rfl (.tmp 51) (.tmp 53) 27 72 (.agg #[(.int .i64 0),(.int .i64 0),(.int .i64 0),(.bool false)]) 32 rfl Try.underlying27 info72 rfl (by decide) (by omega) a9 d5 (⟨(rd_T72 c a).f0,(rd_T72 c a).f1,(rd_T72 c a).f2,(rd_T72 c a).f3⟩:S72) [.int .i64 ((rd_T72 c a).f0),.int .i64 ((rd_T72 c a).f1),.int .i64 ((rd_T72 c a).f2),.bool ((rd_T72 c a).f3)] (fun k_=>k_≠G∧k_≠O) (fun _=>False) rfl (by first|(go_simp;done)|(go_simp;rfl)) ?aP (fun _ hk=>hk.elim) ?aF ?aO ?aB ?aS ?aL ?_;(case aP=>exact k72_mkM _ _ _ (⟨(rd_T72 c a).f0,(rd_T72 c a).f1,(rd_T72 c a).f2,(rd_T72 c a).f3⟩:S72));(case aB=>exact qB_);(case aF=>exact(fun k_ hk=>⟨Kd.freshB (g:=G) (o:= .cells #[.int .i64 b6,.int .i64 b7,.int .i64 a7,.bool a8] 72 (0,0)) (qf_ B) k_ hk,Kd.freshB (g:=O) (o:= .cells #[.int .i64 ((rd_T72 c a).f0),.int .i64 ((rd_T72 c a).f1),.int .i64 ((rd_T72 c a).f2),.bool ((rd_T72 c a).f3)] 72 (0,0)) (qp_ c5) k_ hk⟩));(case aO=>exact(by(with_reducible repeat(first|apply Kd.R_alloc|apply Kd.R_drewN|apply Kd.R_drew));exact Kd.R_mono (Kd.R_far (p:=⟨O,3,none⟩) (Kd.R_far (p:=⟨O,2,none⟩) (Kd.R_far (p:=⟨O,1,none⟩) (Kd.R_far (p:=⟨O,0,none⟩) (Kd.R_mono x.out (fun k_ hk=>(⟨hk,hk.2⟩:_∧k_≠O))) (fun _ hk=>hk.2) (.int .i64 ((rd_T72 c a).f0))) (fun _ hk=>hk.2) (.int .i64 ((rd_T72 c a).f1))) (fun _ hk=>hk.2) (.int .i64 ((rd_T72 c a).f2))) (fun _ hk=>hk.2) (.bool ((rd_T72 c a).f3))) (fun _ hk=>⟨hk.1.1,hk.1.2⟩)));(case aS=>exact(below_size qB_));(case aL=>have:=e9.out;omega);intro M0 D9 ho hb hg hat;rw[←f4.out]at ho;have E0:=am_ (ho);replace j:=am_ (blk_grown (g:=a5) (o:= .cells #[.int .i64 d,.slice (some Y) c.length z] 29 (0,0)) (qf_ j) hg (Kd.R_ne x.out j.out (by decide)));replace q:=am_ (blk_grown (g:=b9) (o:= .cells #[.int .i64 l,.int .i64 m] 43 (0,0)) (qf_ q) hg (Kd.R_ne x.out q.out (by decide)));replace s:=am_ (blk_grown (g:=I) (o:= .cells #[.int .i64 0,.slice none 0 0] 29 (0,0)) (qf_ s) hg (Kd.R_ne x.out s.out (by decide)));replace u:=am_ (blk_grown (g:=J) (o:= .cells #[.int .i64 0,.int .i64 0] 43 (0,0)) (qf_ u) hg (Kd.R_ne x.out u.out (by decide)));replace y:=am_ (blk_grown (g:=X) (o:= .cells #[.int .i64 d,a9] 29 (0,0)) (qf_ y) hg (Kd.R_ne x.out y.out (by decide)));replace B:=am_ (blk_grown (g:=G) (o:= .cells #[.int .i64 b6,.int .i64 b7,.int .i64 a7,.bool a8] 72 (0,0)) (qf_ B) hg (Kd.R_away x.out (fun _ hk=>hk.1)));replace c5:=am_ (blk_grown (g:=O) (o:= .cells #[.int .i64 ((rd_T72 c a).f0),.int .i64 ((rd_T72 c a).f1),.int .i64 ((rd_T72 c a).f2),.bool ((rd_T72 c a).f3)] 72 (0,0)) (qp_ c5) hg (Kd.R_away x.out (fun _ hk=>hk.2)));replace HB:=am_ (hb);clear x ho hb hg hat;obtain⟨E1,E2,M1⟩:=Kd.R_slice E0.out;subst M1;obtain⟨E3,E4,E5,E6⟩:=bc2_ y))
       go_roundg k1
       case measure=>have:=c8.out;have:=HK2.out;omega
       case rel=>exact⟨(wrap64 (a + 1)),(r3),(b6),(b7),(a7),(a8),(.slice E1 r3.length E2),qe_,H',⟨by have:=c8.out;have:=HK2.out;omega⟩,⟨by(with_reducible repeat(first|apply Kd.R_alloc|apply Kd.R_drewN|apply Kd.R_drew));exact Kd.R_mono (Kd.R_far (p:=⟨X,1,none⟩) (Kd.R_types E0.out y.out (by decide)) (fun _ hk=>hk.2) (.slice E1 r3.length E2)) (fun _ hk=>hk.1.1)⟩,⟨qf_ j⟩,⟨qf_ q⟩,⟨qf_ s⟩,⟨qf_ u⟩,⟨qp_ y⟩,⟨qf_ B⟩,⟨qB_⟩⟩
      have b1:(((rd_T72 c a).f0)==l)=true:=beq_iff_eq.mpr b0
      have b2:(((rd_T72 c a).f0) != l)=false:=bne_eq_false_iff_eq.mpr b0
      clear b0
      refine jc_ H ?_ ?_<;>clear H<;>intro b3 H
      ·have b4:(((rd_T72 c a).f1)==m)=true:=beq_iff_eq.mpr b3
       have b5:(((rd_T72 c a).f1) != m)=false:=bne_eq_false_iff_eq.mpr b3
       clear b3;have H' :=am_ H;clear H
       have T:=dt_ a
       have U:=du_ a c.length
       obtain⟨Y,a2,d1,d2,d3,d4⟩:=at_T72 M.out a (ot_ T) (ot_ U)
       cases a2
       replace d1:=qx_ HB d1
       replace d2:=qx_ HB d2
       replace d3:=qx_ HB d3
       replace d4:=qx_ HB d4
       go_wp2_with (first|((with_reducible refine gd_ 11 ?_);refine by_ 11 (cs:= #[.int .i64 0,.int .i64 0,.int .i64 0,.bool false]) (t:=72) ?_;intro O hg M2 c5 hb;have B7:=gw_ hg;obtain⟨C0,k2⟩:=qn_ j hg;obtain⟨j1,k3⟩:=qn_ q hg;obtain⟨j2,k4⟩:=qn_ s hg;obtain⟨j4,k5⟩:=qn_ u hg;obtain⟨C1,k6⟩:=qn_ y hg;obtain⟨C2,k7⟩:=qn_ B hg;replace x:=am_ (Kd.R_below (Kd.R_elderB (qR_ x) O (Nat.le_of_eq hg.symm)) hb);replace j:=qbl_ j hb;replace q:=qbl_ q hb;replace s:=qbl_ s hb;replace u:=qbl_ u hb;replace y:=qbl_ y hb;replace B:=qbl_ B hb;replace HB:=hs_ hb;clear hb hg;obtain⟨Y1,Y2⟩:=nn_ k2;obtain⟨Y3,Y4⟩:=nn_ k3;obtain⟨Y5,Y6⟩:=nn_ k4;obtain⟨Y7,Y8⟩:=nn_ k5;obtain⟨Y9,Z0⟩:=nn_ k6;obtain⟨Z1,Z2⟩:=nn_ k7;obtain⟨E7,E8,E9,F0,F1,F2,F3,F4⟩:=bc4_ c5;obtain⟨Z3,Z4⟩:=nn_ h4;obtain⟨Z5,Z6⟩:=nn_ e6;obtain⟨Z7,Z8⟩:=nn_ e7;obtain⟨Z9,aa⟩:=nn_ h8;obtain⟨ab,ac⟩:=nn_ h9;obtain⟨F5,F6,F7,F8⟩:=bc2_ q;obtain⟨M3,M4⟩:=nn_ q4;obtain⟨M5,M6⟩:=nn_ i0;obtain⟨M7,M8⟩:=nn_ i1;obtain⟨M9,N0⟩:=nn_ q8;obtain⟨F9,G0,G1,G2,G3,G4,G5,G6⟩:=bc4_ B))
       go_roundg k1
       case measure=>have:=c8.out;have:=HK2.out;omega
       case rel=>exact⟨(wrap64 (a + 1)),(d5),((rd_T72 c a).f0),((rd_T72 c a).f1),((rd_T72 c a).f2),((rd_T72 c a).f3),(a9),qe_,H',⟨by have:=c8.out;have:=HK2.out;omega⟩,⟨by(with_reducible repeat(first|apply Kd.R_alloc|apply Kd.R_drewN|apply Kd.R_drew));exact Kd.R_mono (Kd.R_far (p:=⟨G,3,none⟩) (Kd.R_far (p:=⟨G,2,none⟩) (Kd.R_far (p:=⟨G,1,none⟩) (Kd.R_far (p:=⟨G,0,none⟩) (Kd.R_far (p:=⟨O,3,none⟩) (Kd.R_far (p:=⟨O,2,none⟩) (Kd.R_far (p:=⟨O,1,none⟩) (Kd.R_far (p:=⟨O,0,none⟩) (Kd.R_mono (Kd.R_mono x.out (fun k_ hk=>(⟨hk,hk.2⟩:_∧k_≠O))) (fun k_ hk=>(⟨hk,hk.1.1⟩:_∧k_≠G))) (fun _ hk=>hk.1.2) (.int .i64 ((rd_T72 c a).f0))) (fun _ hk=>hk.1.2) (.int .i64 ((rd_T72 c a).f1))) (fun _ hk=>hk.1.2) (.int .i64 ((rd_T72 c a).f2))) (fun _ hk=>hk.1.2) (.bool ((rd_T72 c a).f3))) (fun _ hk=>hk.2) (.int .i64 ((rd_T72 c a).f0))) (fun _ hk=>hk.2) (.int .i64 ((rd_T72 c a).f1))) (fun _ hk=>hk.2) (.int .i64 ((rd_T72 c a).f2))) (fun _ hk=>hk.2) (.bool ((rd_T72 c a).f3))) (fun _ hk=>hk.1.1.1)⟩,⟨qf_ j⟩,⟨qf_ q⟩,⟨qf_ s⟩,⟨qf_ u⟩,⟨qf_ y⟩,⟨qp_ B⟩,⟨qB_⟩⟩
      have b4:(((rd_T72 c a).f1)==m)=false:=beq_eq_false_iff_ne.mpr b3
      have b5:(((rd_T72 c a).f1) != m)=true:=bne_iff_ne.mpr b3
      refine jg_ H ?_;clear H;intro d7 H
      have f5:=am_ d7
      clear d7
      generalize c6:(d5++[(⟨(rd_T72 c a).f0,(rd_T72 c a).f1,(rd_T72 c a).f2,(rd_T72 c a).f3⟩:S72)])=r4 at H;replace H:=bh_ H;have f6:=am_ c6.symm;clear c6;have H' :=am_ H;clear H
      have T:=dt_ a
      have U:=du_ a c.length
      obtain⟨Y,a2,d1,d2,d3,d4⟩:=at_T72 M.out a (ot_ T) (ot_ U)
      cases a2
      replace d1:=qx_ HB d1
      replace d2:=qx_ HB d2
      replace d3:=qx_ HB d3
      replace d4:=qx_ HB d4
      go_wp2_with (first|((with_reducible refine gd_ 11 ?_);refine by_ 11 (cs:= #[.int .i64 0,.int .i64 0,.int .i64 0,.bool false]) (t:=72) ?_;intro O hg N1 c5 hb;have B7:=gw_ hg;obtain⟨C0,k2⟩:=qn_ j hg;obtain⟨j1,k3⟩:=qn_ q hg;obtain⟨j2,k4⟩:=qn_ s hg;obtain⟨j4,k5⟩:=qn_ u hg;obtain⟨C1,k6⟩:=qn_ y hg;obtain⟨C2,k7⟩:=qn_ B hg;replace x:=am_ (Kd.R_below (Kd.R_elderB (qR_ x) O (Nat.le_of_eq hg.symm)) hb);replace j:=qbl_ j hb;replace q:=qbl_ q hb;replace s:=qbl_ s hb;replace u:=qbl_ u hb;replace y:=qbl_ y hb;replace B:=qbl_ B hb;replace HB:=hs_ hb;clear hb hg;obtain⟨N2,N3⟩:=nn_ k2;obtain⟨N4,N5⟩:=nn_ k3;obtain⟨N6,N7⟩:=nn_ k4;obtain⟨N8,N9⟩:=nn_ k5;obtain⟨O0,O1⟩:=nn_ k6;obtain⟨O2,O3⟩:=nn_ k7;obtain⟨G7,G8,G9,H0,H1,H2,H3,H4⟩:=bc4_ c5;obtain⟨O4,O5⟩:=nn_ h4;obtain⟨O6,O7⟩:=nn_ e6;obtain⟨O8,O9⟩:=nn_ e7;obtain⟨P0,P1⟩:=nn_ h8;obtain⟨P2,P3⟩:=nn_ h9;obtain⟨H5,H6,H7,H8⟩:=bc2_ q;obtain⟨P4,P5⟩:=nn_ n1;obtain⟨P6,P7⟩:=nn_ c9;obtain⟨P8,P9⟩:=nn_ d0;obtain⟨Q0,Q1⟩:=nn_ q7;obtain⟨H9,I0,I1,u0⟩:=bc2_ y)|((with_reducible refine gate_builtin (b:= .append) (xs:= #[.tmp 51,.tmp 53]) rfl ?_);at_builtin;refine Kd.R_append k72 (w0:=w) w.heap.size rfl (.tmp 51) (.tmp 53) 27 72 (.agg #[(.int .i64 0),(.int .i64 0),(.int .i64 0),(.bool false)]) 32 rfl Try.underlying27 info72 rfl (by decide) (by omega) a9 d5 (⟨(rd_T72 c a).f0,(rd_T72 c a).f1,(rd_T72 c a).f2,(rd_T72 c a).f3⟩:S72) [.int .i64 ((rd_T72 c a).f0),.int .i64 ((rd_T72 c a).f1),.int .i64 ((rd_T72 c a).f2),.bool ((rd_T72 c a).f3)] (fun k_=>k_≠G∧k_≠O) (fun _=>False) rfl (by first|(go_simp;done)|(go_simp;rfl)) ?aP (fun _ hk=>hk.elim) ?aF ?aO ?aB ?aS ?aL ?_;(case aP=>exact k72_mkM _ _ _ (⟨(rd_T72 c a).f0,(rd_T72 c a).f1,(rd_T72 c a).f2,(rd_T72 c a).f3⟩:S72));(case aB=>exact qB_);(case aF=>exact(fun k_ hk=>⟨Kd.freshB (g:=G) (o:= .cells #[.int .i64 b6,.int .i64 b7,.int .i64 a7,.bool a8] 72 (0,0)) (qf_ B) k_ hk,Kd.freshB (g:=O) (o:= .cells #[.int .i64 ((rd_T72 c a).f0),.int .i64 ((rd_T72 c a).f1),.int .i64 ((rd_T72 c a).f2),.bool ((rd_T72 c a).f3)] 72 (0,0)) (qp_ c5) k_ hk⟩));(case aO=>exact(by(with_reducible repeat(first|apply Kd.R_alloc|apply Kd.R_drewN|apply Kd.R_drew));exact Kd.R_mono (Kd.R_far (p:=⟨O,3,none⟩) (Kd.R_far (p:=⟨O,2,none⟩) (Kd.R_far (p:=⟨O,1,none⟩) (Kd.R_far (p:=⟨O,0,none⟩) (Kd.R_mono x.out (fun k_ hk=>(⟨hk,hk.2⟩:_∧k_≠O))) (fun _ hk=>hk.2) (.int .i64 ((rd_T72 c a).f0))) (fun _ hk=>hk.2) (.int .i64 ((rd_T72 c a).f1))) (fun _ hk=>hk.2) (.int .i64 ((rd_T72 c a).f2))) (fun _ hk=>hk.2) (.bool ((rd_T72 c a).f3))) (fun _ hk=>⟨hk.1.1,hk.1.2⟩)));(case aS=>exact(below_size qB_));(case aL=>have:=f5.out;omega);intro Q2 Q3 ho hb hg hat;rw[←f6.out]at ho;have I2:=am_ (ho);replace j:=am_ (blk_grown (g:=a5) (o:= .cells #[.int .i64 d,.slice (some Y) c.length z] 29 (0,0)) (qf_ j) hg (Kd.R_ne x.out j.out (by decide)));replace q:=am_ (blk_grown (g:=b9) (o:= .cells #[.int .i64 l,.int .i64 m] 43 (0,0)) (qf_ q) hg (Kd.R_ne x.out q.out (by decide)));replace s:=am_ (blk_grown (g:=I) (o:= .cells #[.int .i64 0,.slice none 0 0] 29 (0,0)) (qf_ s) hg (Kd.R_ne x.out s.out (by decide)));replace u:=am_ (blk_grown (g:=J) (o:= .cells #[.int .i64 0,.int .i64 0] 43 (0,0)) (qf_ u) hg (Kd.R_ne x.out u.out (by decide)));replace y:=am_ (blk_grown (g:=X) (o:= .cells #[.int .i64 d,a9] 29 (0,0)) (qf_ y) hg (Kd.R_ne x.out y.out (by decide)));replace B:=am_ (blk_grown (g:=G) (o:= .cells #[.int .i64 b6,.int .i64 b7,.int .i64 a7,.bool a8] 72 (0,0)) (qf_ B) hg (Kd.R_away x.out (fun _ hk=>hk.1)));replace c5:=am_ (blk_grown (g:=O) (o:= .cells #[.int .i64 ((rd_T72 c a).f0),.int .i64 ((rd_T72 c a).f1),.int .i64 ((rd_T72 c a).f2),.bool ((rd_T72 c a).f3)] 72 (0,0)) (qp_ c5) hg (Kd.R_away x.out (fun _ hk=>hk.2)));replace HB:=am_ (hb);clear x ho hb hg hat;obtain⟨I3,I4,Q4⟩:=Kd.R_slice I2.out;subst Q4;obtain⟨u1,u2,u3,u4⟩:=bc2_ y))
      go_roundg k1
      case measure=>have:=c8.out;have:=HK2.out;omega
      case rel=>exact⟨(wrap64 (a + 1)),(r4),(b6),(b7),(a7),(a8),(.slice I3 r4.length I4),qe_,H',⟨by have:=c8.out;have:=HK2.out;omega⟩,⟨by(with_reducible repeat(first|apply Kd.R_alloc|apply Kd.R_drewN|apply Kd.R_drew));exact Kd.R_mono (Kd.R_far (p:=⟨X,1,none⟩) (Kd.R_types I2.out y.out (by decide)) (fun _ hk=>hk.2) (.slice I3 r4.length I4)) (fun _ hk=>hk.1.1)⟩,⟨qf_ j⟩,⟨qf_ q⟩,⟨qf_ s⟩,⟨qf_ u⟩,⟨qp_ y⟩,⟨qf_ B⟩,⟨qB_⟩⟩
     have H' :=am_ H;clear H;obtain⟨ad,ae⟩:=nn_ q4;obtain⟨af,ag⟩:=nn_ A9;obtain⟨ah,ai⟩:=nn_ i0;obtain⟨aj,ak⟩:=nn_ i1;obtain⟨al,am⟩:=nn_ q8
     obtain⟨I5,I6,I7,I8,I9,J0,J1,J2⟩:=bc4_ B
     go_wp2
     go_loopg [12] k1 (fun kq v12 w' =>∃ (D:Int) (h0:Int) (h1:Int) (h2:Int) (Z:List (S72)) (a9:Value),v12= .int .i64 D∧Aside0 (impl_WebTake.l1 kq D l m d Z b6 b7 a7 a8=some (e0,e1,e2,e3,e4,e5))∧Aside0 (kq≤k1)∧Aside0 (Kd.R k72 72 w' w.heap.size (fun k_=>k_≠G) a9 Z)∧Aside0 (w'.heap[a5]? =some (.cells #[.int .i64 d,(.slice A c.length z)] 29 (0,0)))∧Aside0 (w'.heap[b9]? =some (.cells #[.int .i64 l,.int .i64 m] 43 (0,0)))∧Aside0 (w'.heap[I]? =some (.cells #[.int .i64 h0,(.slice none 0 0)] 29 (0,0)))∧Aside0 (w'.heap[J]? =some (.cells #[.int .i64 h1,.int .i64 h2] 43 (0,0)))∧Aside0 (w'.heap[X]? =some (.cells #[.int .i64 d,a9] 29 (0,0)))∧Aside0 (w'.heap[G]? =some (.cells #[.int .i64 b6,.int .i64 b7,.int .i64 a7,.bool a8] 72 (0,0)))∧Aside0 (Below w.heap.size w w'))
     case atStart=>exact⟨(a7),(0),(0),(0),(d5),(a9),qe_,H',⟨Nat.le_refl _⟩,⟨ra_ x⟩,⟨qk_ j⟩,⟨qk_ q⟩,⟨qk_ s⟩,⟨qk_ u⟩,⟨qk_ y⟩,⟨qk_ B⟩,⟨qB_⟩⟩
     case round=>
      clear H' c1 I5 I6 I7 I8 I9 J0 J1 J2
      obtain⟨D,h0,h1,h2,Z,a9,rfl,HA,HK3,x,j,q,s,u,y,B,HB⟩:=hrel
      cases gk with
      |zero=>exact absurd HA.out (by simp [impl_WebTake.l1])
      |succ Q9=>
       have H:=HA.out;clear HA
       simp only[impl_WebTake.l1]at H
       have v3:=am_ H
       clear H
       go_upto_region 13 with (fail)
       go_cut [64] (fun v64 wc=>∃ (kq:Nat) (V:Bool),v64= .bool V∧Aside0 (impl_WebTake.j3 kq D V l m d Z b6 b7 a7 a8=some (e0,e1,e2,e3,e4,e5))∧Aside0 (kq≤Q9)∧Aside0 (Kd.R k72 72 wc w.heap.size (fun k_=>k_≠G) a9 Z)∧Aside0 (wc.heap[a5]? =some (.cells #[.int .i64 d,(.slice A c.length z)] 29 (0,0)))∧Aside0 (wc.heap[b9]? =some (.cells #[.int .i64 l,.int .i64 m] 43 (0,0)))∧Aside0 (wc.heap[I]? =some (.cells #[.int .i64 h0,(.slice none 0 0)] 29 (0,0)))∧Aside0 (wc.heap[J]? =some (.cells #[.int .i64 h1,.int .i64 h2] 43 (0,0)))∧Aside0 (wc.heap[X]? =some (.cells #[.int .i64 d,a9] 29 (0,0)))∧Aside0 (wc.heap[G]? =some (.cells #[.int .i64 b6,.int .i64 b7,.int .i64 a7,.bool a8] 72 (0,0)))∧Aside0 (Below w.heap.size w wc))
       case first=>
        have H:=v3.out;clear v3
        refine jc_ H ?_ ?_<;>clear H<;>intro a3 H
        ·have E:decide (0≤D)=true:=decide_eq_true a3
         clear a3
         (first|rw[E]|(simp only[i64_w,i32_w];rw[E])|skip)
         have H' :=am_ H;clear H;obtain⟨an,ao⟩:=nn_ q4;obtain⟨ap,aq⟩:=nn_ A9;obtain⟨ar,au⟩:=nn_ i0;obtain⟨av,aw⟩:=nn_ i1;obtain⟨ax,ay⟩:=nn_ q8
         obtain⟨v4,v5,v6,v7,v8,v9,R0,R1⟩:=bc4_ B
         go_wp2
         go_meet
         case rel=>exact⟨_,(a8),qe_,H',⟨by have:=c8.out;have:=HK2.out;have:=HK3.out;first|omega|exact Nat.le_refl _⟩,⟨ra_ x⟩,⟨qk_ j⟩,⟨qk_ q⟩,⟨qk_ s⟩,⟨qk_ u⟩,⟨qk_ y⟩,⟨qk_ B⟩,⟨qB_⟩⟩
        have E:decide (0≤D)=false:=decide_eq_false a3
        clear a3
        (first|rw[E]|(simp only[i64_w,i32_w];rw[E])|skip)
        have H' :=am_ H;clear H
        go_wp2
        go_meet
        case rel=>exact⟨_,(false),qe_,H',⟨by have:=c8.out;have:=HK2.out;have:=HK3.out;first|omega|exact Nat.le_refl _⟩,⟨ra_ x⟩,⟨qk_ j⟩,⟨qk_ q⟩,⟨qk_ s⟩,⟨qk_ u⟩,⟨qk_ y⟩,⟨qk_ B⟩,⟨qB_⟩⟩
       case rest=>
        clear v3
        obtain⟨kq,V,rfl,HA,K1,x,j,q,s,u,y,B,HB⟩:=hcut
        cases kq with
        |zero=>exact absurd HA.out (by simp [impl_WebTake.j3])
        |succ kj115=>
         have H:=HA.out;clear HA
         simp only[impl_WebTake.j3]at H
         refine id_ H ?_ ?_<;>clear H<;>rintro rfl H
         ·simp only[Option.some.injEq,Prod.mk.injEq]at H
          obtain⟨rfl,rfl,rfl,rfl,rfl,rfl⟩:=H
          obtain⟨az,aA⟩:=nn_ n1;obtain⟨aC,aD⟩:=nn_ A5;obtain⟨aE,aG⟩:=nn_ c9;obtain⟨aH,aI⟩:=nn_ d0;obtain⟨aJ,aK⟩:=nn_ q7
          obtain⟨aM,aN,aQ,aR⟩:=bc2_ y
          obtain⟨aT,aU⟩:=nn_ m6;obtain⟨aV,aW⟩:=nn_ m7;obtain⟨aX,aY⟩:=nn_ g8;obtain⟨aZ,ba⟩:=nn_ q5
          obtain⟨B1,bb,B3,B4⟩:=bc2_ s
          obtain⟨K2,K3,B5⟩:=Kd.R_slice x.out
          subst B5;obtain⟨bc,bd⟩:=nn_ m8;obtain⟨be,bf⟩:=nn_ m9;obtain⟨bg,bh⟩:=nn_ q6
          obtain⟨B6,bi,B8,B9⟩:=bc2_ u
          go_wp2
          refine bodyPost_ret (results_list (rs:=[.cell 4 29,.cell 5 43,.tmp 6,.tmp 7]) rfl (by simp) (.cell I 29 #[.int .i64 d,.slice K2 Z.length K3] (0,0) _ rfl (qp_ s) Try.underlying29 rfl (by kernel_rfl) (.cell J 43 #[.int .i64 0,.int .i64 0] (0,0) _ rfl (qp_ u) Try.underlying43 rfl (by kernel_rfl) (.tmp (.tmp .nil))))) rfl ?_
          exact⟨_,qr_,by(with_reducible repeat(first|apply Kd.R_alloc|apply Kd.R_drewN|apply Kd.R_drew));exact Kd.R_mono (Kd.R_far (p:=⟨J,1,none⟩) (Kd.R_far (p:=⟨J,0,none⟩) (Kd.R_far (p:=⟨I,1,none⟩) (Kd.R_far (p:=⟨I,0,none⟩) (Kd.R_types (Kd.R_types x.out s.out (by decide)) u.out (by decide)) (fun _ hk=>hk.1.2) (.int .i64 d)) (fun _ hk=>hk.1.2) (.slice K2 Z.length K3)) (fun _ hk=>hk.2) (.int .i64 0)) (fun _ hk=>hk.2) (.int .i64 0)) (fun _ hk=>trivial),qB_⟩
         obtain⟨⟨a0,a1,bj,u8⟩,K4,H⟩:=bs_ H;dsimp only at H
         refine id_ H ?_ ?_<;>clear H<;>rintro rfl H
         ·have H' :=am_ H;clear H;obtain⟨bk,bl⟩:=nn_ h4;obtain⟨bn,bo⟩:=nn_ e6;obtain⟨bp,bq⟩:=nn_ e7;obtain⟨br,bs⟩:=nn_ h8;obtain⟨bt,bu⟩:=nn_ h9
          obtain⟨bv,bw,bx,bz⟩:=bc2_ q
          obtain⟨y3,y4,R3⟩:=Kd.R_slice x.out
          subst R3
          go_wp2_with (first|((with_reducible refine gc_ 95 ?_);refine gl_ (some 70) Try.func95 #[.pointer (some ⟨X,0,none⟩),.agg #[.int .i64 l,.int .i64 m],.int .i64 D] ?_;(with_reducible refine(impl_Web_look.calls kj115 d (fun k_=>some k_=(.slice y3 Z.length y4:Value).ownBlock) (.slice y3 Z.length y4) Z l m D a0 a1 false u8 X w _ ?side1 ?side2 ?side3 K4.out).mono ?_);(case side1=>exact(qk_ y));(case side2=>exact qB_);(case side3=>exact Kd.R_tight rfl x.out);rintro e K5 ⟨rfl,c7,hb,hkp⟩;refine⟨_,rfl,?_⟩;refine dn8_ (am_ (Kd.R_reok rfl c7 (fun k_ e_=>x.out.1 k_ e_))) (qkp_ j hkp (fun hs_=>(fun e_=>(Kd.R_ne x.out j.out (by decide)) e_) hs_)) (qkp_ q hkp (fun hs_=>(fun e_=>(Kd.R_ne x.out q.out (by decide)) e_) hs_)) (qkp_ s hkp (fun hs_=>(fun e_=>(Kd.R_ne x.out s.out (by decide)) e_) hs_)) (qkp_ u hkp (fun hs_=>(fun e_=>(Kd.R_ne x.out u.out (by decide)) e_) hs_)) (qkp_ y hkp (fun hs_=>(fun e_=>(Kd.R_ne x.out y.out (by decide)) e_) hs_)) (qkp_ B hkp (fun hs_=>(fun e_=>(Kd.R_away x.out (fun _ hk=>hk)) e_) hs_)) (am_ (hb)) ?_;clear x j q s u y B HB;intro x j q s u y B HB;clear hb hkp c7)|((with_reducible refine gd_ 13 ?_);refine by_ 13 (cs:= #[.int .i64 0,.int .i64 0]) (t:=43) ?_;intro L hg K6 c0 hb;have R4:=gw_ hg;obtain⟨u9,y5⟩:=qn_ j hg;obtain⟨v0,y6⟩:=qn_ q hg;obtain⟨y7,d8⟩:=qn_ s hg;obtain⟨y8,d9⟩:=qn_ u hg;obtain⟨v1,y9⟩:=qn_ y hg;obtain⟨v2,z0⟩:=qn_ B hg;replace x:=kb_ x hb;replace j:=qbl_ j hb;replace q:=qbl_ q hb;replace s:=qbl_ s hb;replace u:=qbl_ u hb;replace y:=qbl_ y hb;replace B:=qbl_ B hb;replace HB:=hs_ hb;clear hb hg;obtain⟨bA,bB⟩:=nn_ y5;obtain⟨bC,bD⟩:=nn_ y6;obtain⟨bE,bF⟩:=nn_ d8;obtain⟨bG,bH⟩:=nn_ d9;obtain⟨bI,bJ⟩:=nn_ y9;obtain⟨bK,bL⟩:=nn_ z0;obtain⟨bM,bN,bO,bP⟩:=bc2_ c0))
          go_roundg kj115
          case measure=>have:=c8.out;have:=HK2.out;have:=HK3.out;have:=K1.out;omega
          case rel=>exact⟨(wrap64 (D - 1)),(h0),(h1),(h2),(u8),(.slice y3 Z.length y4),qe_,H',⟨by have:=c8.out;have:=HK2.out;have:=HK3.out;have:=K1.out;omega⟩,⟨by(with_reducible repeat(first|apply Kd.R_alloc|apply Kd.R_drewN|apply Kd.R_drew));exact Kd.R_mono (Kd.R_far (p:=⟨L,1,none⟩) (Kd.R_far (p:=⟨L,0,none⟩) (Kd.R_types x.out c0.out (by decide)) (fun _ hk=>hk.2) (.int .i64 a0)) (fun _ hk=>hk.2) (.int .i64 a1)) (fun _ hk=>hk.1)⟩,⟨qf_ j⟩,⟨qf_ q⟩,⟨qf_ s⟩,⟨qf_ u⟩,⟨qf_ y⟩,⟨qf_ B⟩,⟨qB_⟩⟩
         simp only[Option.some.injEq,Prod.mk.injEq]at H
         obtain⟨rfl,rfl,rfl,rfl,rfl,rfl⟩:=H
         obtain⟨bQ,bR⟩:=nn_ h4;obtain⟨bS,bT⟩:=nn_ e6;obtain⟨bU,bV⟩:=nn_ e7;obtain⟨bW,bX⟩:=nn_ h8;obtain⟨bY,bZ⟩:=nn_ h9
         obtain⟨ca,cb,cc,cd⟩:=bc2_ q
         obtain⟨f7,f8,R5⟩:=Kd.R_slice x.out
         subst R5
         try go_wp2_with (first|((with_reducible refine gc_ 95 ?_);refine gl_ (some 70) Try.func95 #[.pointer (some ⟨X,0,none⟩),.agg #[.int .i64 l,.int .i64 m],.int .i64 D] ?_;(with_reducible refine(impl_Web_look.calls kj115 d (fun k_=>some k_=(.slice f7 Z.length f8:Value).ownBlock) (.slice f7 Z.length f8) Z l m D a0 a1 true u8 X w _ ?side1 ?side2 ?side3 K4.out).mono ?_);(case side1=>exact(qk_ y));(case side2=>exact qB_);(case side3=>exact Kd.R_tight rfl x.out);rintro e K7 ⟨rfl,c7,hb,hkp⟩;refine⟨_,rfl,?_⟩;refine dn8_ (am_ (Kd.R_reok rfl c7 (fun k_ e_=>x.out.1 k_ e_))) (qkp_ j hkp (fun hs_=>(fun e_=>(Kd.R_ne x.out j.out (by decide)) e_) hs_)) (qkp_ q hkp (fun hs_=>(fun e_=>(Kd.R_ne x.out q.out (by decide)) e_) hs_)) (qkp_ s hkp (fun hs_=>(fun e_=>(Kd.R_ne x.out s.out (by decide)) e_) hs_)) (qkp_ u hkp (fun hs_=>(fun e_=>(Kd.R_ne x.out u.out (by decide)) e_) hs_)) (qkp_ y hkp (fun hs_=>(fun e_=>(Kd.R_ne x.out y.out (by decide)) e_) hs_)) (qkp_ B hkp (fun hs_=>(fun e_=>(Kd.R_away x.out (fun _ hk=>hk)) e_) hs_)) (am_ (hb)) ?_;clear x j q s u y B HB;intro x j q s u y B HB;clear hb hkp c7)|((with_reducible refine gd_ 13 ?_);refine by_ 13 (cs:= #[.int .i64 0,.int .i64 0]) (t:=43) ?_;intro L hg F c0 hb;have R4:=gw_ hg;obtain⟨u9,y5⟩:=qn_ j hg;obtain⟨v0,y6⟩:=qn_ q hg;obtain⟨y7,d8⟩:=qn_ s hg;obtain⟨y8,d9⟩:=qn_ u hg;obtain⟨v1,y9⟩:=qn_ y hg;obtain⟨v2,z0⟩:=qn_ B hg;replace x:=kb_ x hb;replace j:=qbl_ j hb;replace q:=qbl_ q hb;replace s:=qbl_ s hb;replace u:=qbl_ u hb;replace y:=qbl_ y hb;replace B:=qbl_ B hb;replace HB:=hs_ hb;clear hb hg;obtain⟨ce,cf⟩:=nn_ y5;obtain⟨cg,ch⟩:=nn_ y6;obtain⟨ci,cj⟩:=nn_ d8;obtain⟨ck,cl⟩:=nn_ d9;obtain⟨cm,cn⟩:=nn_ y9;obtain⟨co,T1⟩:=nn_ z0;obtain⟨cp,cq,cr,ct⟩:=bc2_ c0))
         have f9:Aside0 (Kd.R k72 72 ((F.setCell ⟨L,0,none⟩ (.int .i64 a0)).setCell ⟨L,1,none⟩ (.int .i64 a1)) w.heap.size (fun k_=>k_≠G) (.slice f7 Z.length f8) u8):=⟨by(with_reducible repeat(first|apply Kd.R_alloc|apply Kd.R_drewN|apply Kd.R_drew));exact Kd.R_mono (Kd.R_far (p:=⟨L,1,none⟩) (Kd.R_far (p:=⟨L,0,none⟩) (Kd.R_types x.out c0.out (by decide)) (fun _ hk=>hk.2) (.int .i64 a0)) (fun _ hk=>hk.2) (.int .i64 a1)) (fun _ hk=>hk.1)⟩
         have g0:Aside0 (((F.setCell ⟨L,0,none⟩ (.int .i64 a0)).setCell ⟨L,1,none⟩ (.int .i64 a1)).heap[a5]? =some (.cells #[.int .i64 d,.slice A c.length z] 29 (0,0))):=⟨qf_ j⟩
         have g1:Aside0 (((F.setCell ⟨L,0,none⟩ (.int .i64 a0)).setCell ⟨L,1,none⟩ (.int .i64 a1)).heap[b9]? =some (.cells #[.int .i64 l,.int .i64 m] 43 (0,0))):=⟨qf_ q⟩
         have g2:Aside0 (((F.setCell ⟨L,0,none⟩ (.int .i64 a0)).setCell ⟨L,1,none⟩ (.int .i64 a1)).heap[I]? =some (.cells #[.int .i64 h0,.slice none 0 0] 29 (0,0))):=⟨qf_ s⟩
         have g3:Aside0 (((F.setCell ⟨L,0,none⟩ (.int .i64 a0)).setCell ⟨L,1,none⟩ (.int .i64 a1)).heap[J]? =some (.cells #[.int .i64 h1,.int .i64 h2] 43 (0,0))):=⟨qf_ u⟩
         have g4:Aside0 (((F.setCell ⟨L,0,none⟩ (.int .i64 a0)).setCell ⟨L,1,none⟩ (.int .i64 a1)).heap[X]? =some (.cells #[.int .i64 d,.slice f7 Z.length f8] 29 (0,0))):=⟨qf_ y⟩
         have g5:Aside0 (((F.setCell ⟨L,0,none⟩ (.int .i64 a0)).setCell ⟨L,1,none⟩ (.int .i64 a1)).heap[G]? =some (.cells #[.int .i64 b6,.int .i64 b7,.int .i64 a7,.bool a8] 72 (0,0))):=⟨qf_ B⟩
         have g6:Aside0 (((F.setCell ⟨L,0,none⟩ (.int .i64 a0)).setCell ⟨L,1,none⟩ (.int .i64 a1)).heap[L]? =some (.cells #[.int .i64 a0,.int .i64 a1] 43 (0,0))):=⟨qp_ c0⟩
         have g7:Aside0 (Below w.heap.size w ((F.setCell ⟨L,0,none⟩ (.int .i64 a0)).setCell ⟨L,1,none⟩ (.int .i64 a1))):=⟨qB_⟩
         clear x j q s u y B c0 HB
         generalize ((F.setCell ⟨L,0,none⟩ (.int .i64 a0)).setCell ⟨L,1,none⟩ (.int .i64 a1))=m5 at f9 g0 g1 g2 g3 g4 g5 g6 g7 ⊢
         have x:=f9;have j:=g0;have q:=g1;have s:=g2;have u:=g3;have y:=g4;have B:=g5;have c0:=g6;have HB:=g7;clear f9 g0 g1 g2 g3 g4 g5 g6 g7
         replace x:=rd_ x;replace j:=bd_ j;replace q:=bd_ q;replace s:=bd_ s;replace u:=bd_ u;replace y:=bd_ y;replace B:=bd_ B;replace c0:=bd_ c0;replace HB:=hd_ HB
         refine start_ (n:=6) (S:=fun w' =>w'.cell? ⟨X,0,none⟩=some (.int .i64 d)∧w'.cell? ⟨X,1,none⟩=some (.slice f7 Z.length f8)∧w'.cell? ⟨L,0,none⟩=some (.int .i64 a0)∧w'.cell? ⟨L,1,none⟩=some (.int .i64 a1)) (ds:=[]) (bm 6 0) (by kernel_rfl) rfl (by kernel_rfl) ⟨bl_ y 0,bl_ y 1,bl_ c0 0,bl_ c0 1⟩ (fun hHeld=> ?_)
         generalize m5.drew=b8 at x j q s u y B c0 HB hHeld ⊢
         refine take_ (i:=0) (N:=some 74) (v:= ?_) (a' := ?_) (bm 6 1) rfl rfl (by kernel_rfl) (fun _ _ _ h=>h) (Or.inl ⟨by rfl,?_⟩) hHeld ?_ ?_
         rotate_left
         ·rintro w' ⟨R6,R7,R8,R9⟩
          go_simp
          with_reducible rfl
         rotate_left
         ·simp only[Act.put,sA_,sB_,sC_,i64_w,i32_w]
          rfl
         refine take_ (i:=1) (N:=some 75) (v:= ?_) (a' := ?_) (bm 6 3) rfl rfl (by kernel_rfl) (fun _ _ _ h=>h) (Or.inl ⟨by rfl,?_⟩) hHeld ?_ ?_
         rotate_left
         ·rintro w' ⟨R6,R7,R8,R9⟩
          go_simp
          with_reducible rfl
         rotate_left
         ·simp only[Act.put,sA_,sB_,sC_,i64_w,i32_w]
          rfl
         refine one_ (i:=2) (N:=none) (bm 6 7) rfl rfl (by kernel_rfl) (by decide) (fun K hK=> ?_)
         have z1:b8.cell? ⟨I,0,none⟩=some (.int .i64 h0):=bl_ s 0
         have n2:=blk_frozen s.out 0
         have cu:=n7.out;have cv:=e6.out;have cw:=n0.out;have cx:=c9.out;have cy:=i0.out;have cz:=d8.out;have cA:=m6.out;have cB:=m7.out;have cC:=g8.out;have cD:=A6.out;have cE:=q5.out;have cF:=y7.out
         have z2:b8.cell? ⟨I,1,none⟩=some (.slice none 0 0):=bl_ s 1
         have n3:=blk_frozen s.out 1
         have cG:=n7.out;have cH:=e6.out;have cI:=n0.out;have cJ:=c9.out;have cK:=i0.out;have cL:=d8.out;have cM:=m6.out;have cN:=m7.out;have cO:=g8.out;have cP:=A6.out;have cQ:=q5.out;have cR:=y7.out
         refine skip_ (w1:= ?_) (by rfl) rfl ?_ ?_
         rotate_left
         ·go_simp
          rfl
         refine hK.out _ _ ⟨((cell_far (p:=⟨I,_,none⟩) c9.out _).trans (((cell_far (p:=⟨I,_,none⟩) c9.out _).trans (hHeld.1)))),((cell_far (p:=⟨I,_,none⟩) c9.out _).trans (((cell_far (p:=⟨I,_,none⟩) c9.out _).trans (hHeld.2.1)))),((cell_far (p:=⟨I,_,none⟩) d8.out _).trans (((cell_far (p:=⟨I,_,none⟩) d8.out _).trans (hHeld.2.2.1)))),((cell_far (p:=⟨I,_,none⟩) d8.out _).trans (((cell_far (p:=⟨I,_,none⟩) d8.out _).trans (hHeld.2.2.2))))⟩ (fun hHeld=> ?_)
         clear hK K
         refine one_ (i:=3) (N:=none) (bm 6 15) rfl rfl (by kernel_rfl) (by decide) (fun K hK=> ?_)
         have z3:b8.cell? ⟨J,0,none⟩=some (.int .i64 h1):=bl_ u 0
         have n4:=blk_frozen u.out 0
         have cS:=n8.out;have cT:=e7.out;have cU:=g8.out;have cV:=d0.out;have cW:=i1.out;have cX:=d9.out;have cY:=m8.out;have cZ:=m9.out;have da:=n0.out;have db:=A7.out;have dc:=q6.out;have dd:=y8.out
         have z4:b8.cell? ⟨J,1,none⟩=some (.int .i64 h2):=bl_ u 1
         have n5:=blk_frozen u.out 1
         have de:=n8.out;have df:=e7.out;have dg:=g8.out;have dh:=d0.out;have di:=i1.out;have dj:=d9.out;have dk:=m8.out;have dl:=m9.out;have dm:=n0.out;have dn:=A7.out;have dp:=q6.out;have dq:=y8.out
         refine skip_ (w1:= ?_) (by rfl) rfl ?_ ?_
         rotate_left
         ·go_simp
          rfl
         refine hK.out _ _ ⟨((cell_far (p:=⟨J,_,none⟩) d0.out _).trans (((cell_far (p:=⟨J,_,none⟩) d0.out _).trans (hHeld.1)))),((cell_far (p:=⟨J,_,none⟩) d0.out _).trans (((cell_far (p:=⟨J,_,none⟩) d0.out _).trans (hHeld.2.1)))),((cell_far (p:=⟨J,_,none⟩) d9.out _).trans (((cell_far (p:=⟨J,_,none⟩) d9.out _).trans (hHeld.2.2.1)))),((cell_far (p:=⟨J,_,none⟩) d9.out _).trans (((cell_far (p:=⟨J,_,none⟩) d9.out _).trans (hHeld.2.2.2))))⟩ (fun hHeld=> ?_)
         clear hK K
         refine pure_ (i:=4) (N:=some 6) (v:= ?_) (a' := ?_) (bm 6 31) rfl rfl (by kernel_rfl) (fun _ _ _ h=>h) (Or.inl ⟨by rfl,?_⟩) ?_ ?_
         rotate_left
         ·intro w'
          go_simp
          with_reducible rfl
         rotate_left
         ·simp only[Act.put,sA_,sB_,sC_,i64_w,i32_w]
          rfl
         refine pure_ (i:=5) (N:=some 7) (v:= ?_) (a' := ?_) (bm 6 63) rfl rfl (by kernel_rfl) (fun _ _ _ h=>h) (Or.inl ⟨by rfl,?_⟩) ?_ ?_
         rotate_left
         ·intro w'
          go_simp
          with_reducible rfl
         rotate_left
         ·simp only[Act.put,sA_,sB_,sC_,i64_w,i32_w]
          rfl
         refine done_ (by kernel_rfl) ?_
         try go_wp2
         refine bodyPost_ret (results_list (rs:=[.cell 4 29,.cell 5 43,.tmp 6,.tmp 7]) rfl (by simp) (.cell I 29 #[.int .i64 d,.slice f7 Z.length f8] (0,0) _ rfl (qp_ s) Try.underlying29 rfl (by kernel_rfl) (.cell J 43 #[.int .i64 a0,.int .i64 a1] (0,0) _ rfl (qp_ u) Try.underlying43 rfl (by kernel_rfl) (.tmp (.tmp .nil))))) rfl ?_
         exact⟨_,qr_,by(with_reducible repeat(first|apply Kd.R_alloc|apply Kd.R_drewN|apply Kd.R_drew));exact Kd.R_mono (Kd.R_far (p:=⟨J,1,none⟩) (Kd.R_far (p:=⟨J,0,none⟩) (Kd.R_far (p:=⟨I,1,none⟩) (Kd.R_far (p:=⟨I,0,none⟩) (Kd.R_types (Kd.R_types x.out s.out (by decide)) u.out (by decide)) (fun _ hk=>hk.1.2) (.int .i64 d)) (fun _ hk=>hk.1.2) (.slice f7 Z.length f8)) (fun _ hk=>hk.2) (.int .i64 a0)) (fun _ hk=>hk.2) (.int .i64 a1)) (fun _ hk=>trivial),qB_⟩
end Go.Proofs.Ytbkklafkoegdpaa.QFnTakes

import Derived.Test.YtbkklafkoegdpaaQFnTakesx29
namespace Go.Proofs.Ytbkklafkoegdpaa.QFnTakes
open Go.RowKit Go.Proofs.YtbkklafkoegdpaaW.PrintWords Go.Proofs.YtbkklafkoegdpaaW.PrintLast Go.Proofs.YtbkklafkoegdpaaW.PrintMore
set_option maxHeartbeats 8000000
set_option maxRecDepth 100000
set_option linter.unusedVariables false
set_option linter.unusedSimpArgs false
def spec_DrawRightWeb.j0:Nat→Bool→List Int→Int→Int→Int→List (S72)→Option (Int × (List (S72)) × Int × Int)
  |0,_,_,_,_,_,_=>none
  |k + 1,x20,x683000,x683001,x683002,x690000,x690001=>if x20=true then ((spec_l01Below.f x683000 x683001 x683002 (x690001.length:Int)).bind fun bt693=>(if 0≤bt693.1 then (if bt693.1<(x690001.length:Int) then (some (x690000,x690001,(rd_T72 x690001 bt693.1).f0,(rd_T72 x690001 bt693.1).f1)) else (none)) else (none))) else ((spec_l05Edge.f x683000 x683001 x683002 x690000).bind fun bt698=>(some (x690000,x690001,bt698.1,bt698.2.1)))
def spec_DrawRightWeb.f (k:Nat) (l0:List Int):Option (Int × (List (S72)) × Int × Int):=(spec_l01New.f k l0).bind fun bt679=>((spec_l08Drawn.f k bt679.1 bt679.2.1 bt679.2.2 l0).bind fun bt683=>(if (bt683.2.1.length:Int)>0 then ((spec_l01Once.f bt679.1 bt683.2.2.1 bt683.2.2.2 4).bind fun bt690=>(spec_DrawRightWeb.j0 k (!bt690.1) bt679.1 bt690.2.1 bt690.2.2 bt683.1 bt683.2.1)) else (spec_DrawRightWeb.j0 k false bt679.1 bt683.2.2.1 bt683.2.2.2 bt683.1 bt683.2.1)))
def spec_DrawRightWeb.T4:Bool × List (List Nat × List Nat):=(true,[([],[]),([0],[0]),([],[]),([],[]),([3],[3]),([4],[4]),([2,5],[2,5]),([1,6],[1,6]),([7],[7]),([],[]),([9,8,6,0,1,2,3,4,5,6,7,8,9],[8,9])])
def spec_DrawRightWeb.B4:List Nat:=[0,1,0,0,8,24,60,127,255,0,1023]
theorem spec_DrawRightWeb.tab4:rtab .any (opsOf Try.f45 4)=spec_DrawRightWeb.T4:=by kernel_rfl
theorem spec_DrawRightWeb.bits4:waitsOk spec_DrawRightWeb.T4.2 spec_DrawRightWeb.B4=true:=by kernel_rfl
def spec_DrawRightWeb.T5:Bool × List (List Nat × List Nat):=(true,[([],[]),([],[]),([1],[1]),([],[]),([3],[3]),([2,4],[2,4]),([0,0],[0]),([5,6,0,1,2,3,4,5,6],[5])])
def spec_DrawRightWeb.B5:List Nat:=[0,0,2,0,8,30,1,127]
theorem spec_DrawRightWeb.tab5:rtab .any (opsOf Try.f45 5)=spec_DrawRightWeb.T5:=by kernel_rfl
theorem spec_DrawRightWeb.bits5:waitsOk spec_DrawRightWeb.T5.2 spec_DrawRightWeb.B5=true:=by kernel_rfl
theorem spec_DrawRightWeb.calls (k:Nat) (e5:Option Addr) (e6:Nat) (l0:List Int) (e7:Int) (e8:List (S72)) (e9:Int) (f4:Int) (w:World) (hr0:Kd.C (Kd.int .u8) w e5 l0.length l0) (hc0:l0.length≤e6) (h:spec_DrawRightWeb.f k l0=some (e7,e8,e9,f4)):
  Calls Try.prog 45 #[.slice e5 l0.length e6] w fun e w' =>∃ c7:Value,e= .returned (.tuple #[.agg #[.int .i64 e7,c7],.agg #[.int .i64 e9,.int .i64 f4]])∧Kd.R k72 72 w' w.heap.size (fun _=>True) c7 e8∧Below w.heap.size w w' :=by
 have hu29:=Try.underlying29;have hu43:=Try.underlying43;have hu72:=Try.underlying72
 have f8:=am_ hr0
 have i2:=am_ hc0
 clear hr0 hc0
 have HB:=am_ (Below.refl w.heap.size w)
 have H:((spec_l01New.f k l0).bind fun c4=>((spec_l08Drawn.f k c4.1 c4.2.1 c4.2.2 l0).bind fun b1=>(if (b1.2.1.length:Int)>0 then ((spec_l01Once.f c4.1 b1.2.2.1 b1.2.2.2 4).bind fun f9=>(spec_DrawRightWeb.j0 k (!f9.1) c4.1 f9.2.1 f9.2.2 b1.1 b1.2.1)) else (spec_DrawRightWeb.j0 k false c4.1 b1.2.2.1 b1.2.2.2 b1.1 b1.2.1))))=some (e7,e8,e9,f4):=h
 clear h
 obtain⟨⟨Z,i3,i4⟩,k9,H⟩:=bs_ H;dsimp only at H
 obtain⟨⟨O,d,c5,c6⟩,l4,H⟩:=bs_ H;dsimp only at H
 have g0:=am_ H
 clear H
 go_enter Try.func45,Try.ntmps45
 go_upto_region 3 with (first|((with_reducible refine gd_ 2 ?_);refine by_ 2 (cs:= #[.int .i64 0,.slice none 0 0]) (t:=29) ?_;intro x hg o4 m hb;have T:=gw_ hg;replace HB:=hs_ hb;clear hb hg)|((with_reducible refine gd_ 3 ?_);refine by_ 3 (cs:= #[.int .i64 0,.int .i64 0]) (t:=43) ?_;intro y hg o5 q hb;have U:=gw_ hg;obtain⟨b7,b8⟩:=qn_ m hg;replace m:=qbl_ m hb;replace HB:=hs_ hb;clear hb hg)|((with_reducible refine gc_ 96 ?_);refine gl_ (some 8) Try.func96 #[.slice e5 l0.length e6] ?_;(with_reducible refine(spec_l01New.calls k _ _ l0 Z i3 i4 w _ ?side1 ?side2 ?side3 k9.out).mono ?_);(case side1=>exact qB_);(case side2=>exact f8.out);(case side3=>exact i2.out);rintro e o6 ⟨g682,rfl,hi,hb,hb2⟩;refine⟨_,rfl,?_⟩;have HI682:=am_ (hi);have V:=am_ (IsS130.ne_blk hi (blk_below (qk_ m) hb2) (by decide));have c8:=am_ (Ne.symm (IsS130.ne_blk hi (blk_below (qk_ m) hb2) (by decide)));have X:=am_ (IsS130.ne_blk hi (blk_below (qk_ q) hb2) (by decide));have c9:=am_ (Ne.symm (IsS130.ne_blk hi (blk_below (qk_ q) hb2) (by decide)));replace m:=qbl_ m hb2;replace q:=qbl_ q hb2;replace HB:=am_ (hb);clear hb hb2 hi)|((with_reducible refine gc_ 97 ?_);refine gl_ (some 11) Try.func97 #[.pointer (some ⟨g682,0,none⟩),.slice e5 l0.length e6] ?_;(with_reducible refine(spec_l08Drawn.calls k g682 Z i3 i4 _ _ l0 O d c5 c6 w _ ?side1 ?side2 ?side3 ?side4 ?side5 l4.out).mono ?_);(case side1=>exact qJ_);(case side2=>exact qB_);(case side3=>exact qC_ f8 HB);(case side4=>exact i2.out);(case side5=>exact Kd.far_C 0 f8.out (IsS130.ge HI682.out));rintro e o7 ⟨o8,rfl,ho0,hi,hb,hk⟩;refine⟨_,rfl,?_⟩;have b9:=am_ (Kd.R_lower ho0 (below_size (qB_)));replace m:=am_ (KeepBut.blk hk (g' :=x) (o:= .cells #[.int .i64 0,.slice none 0 0] 29 (0,0)) (qk_ m) c8.out (by simp));replace q:=am_ (KeepBut.blk hk (g' :=y) (o:= .cells #[.int .i64 0,.int .i64 0] 43 (0,0)) (qk_ q) c9.out (by simp));replace HI682:=am_ (hi);replace HB:=am_ (hb);clear hb hk hi ho0)|((with_reducible refine gd_ 5 ?_);refine bx_ 5 (cs:= #[.int .i64 0,.slice none 0 0]) (t:=29) ?_;intro z hg o9 hbox hb;refine dn14_ (kb_ b9 hb) (qbl_ m hb) (qbl_ q hb) (am_ (IsS130.below (qJ_) hb)) (am_ (below_step (qB_) hb)) (am_ (hbox)) (am_ ((by rw[hg];exact(below_size (qB_)):w.heap.size≤z))) (am_ ((by rw[hg];exact(below_size (qB_)):w.heap.size≤z))) ((qn_ m hg).1) ((qn_ m hg).2) ((qn_ q hg).1) ((qn_ q hg).2) (am_ ((by rw[hg];exact Nat.ne_of_lt (IsS130.lt (show IsS130 w _ g682 Z c5 c6 from qJ_)):g682≠z))) (am_ ((by rw[hg];exact Nat.ne_of_gt (IsS130.lt (show IsS130 w _ g682 Z c5 c6 from qJ_)):z≠g682))) ?_;clear b9 m q HI682 HB;intro b9 m q HI682 HB s p0 a2 f5 a5 f6 a6 a0 c1;clear hb hbox hg;obtain⟨p1,p2⟩:=nn_ a5;obtain⟨p3,p4⟩:=nn_ a6;obtain⟨p5,p6⟩:=nn_ c1;obtain⟨l5,l6,l7,l8⟩:=bc2_ s;obtain⟨b2,Y,l9⟩:=Kd.R_slice b9.out;subst l9))
 go_cut [20] (fun v20 wc=>∃ (kq:Nat) (a7:Bool) (a8:Int) (a9:Int),v20= .bool a7∧Aside0 (spec_DrawRightWeb.j0 kq a7 Z a8 a9 O d=some (e7,e8,e9,f4))∧Aside0 (kq≤k)∧Aside0 (Kd.R k72 72 wc w.heap.size (fun _=>True) (.slice b2 d.length Y) d)∧Aside0 (wc.heap[x]? =some (.cells #[.int .i64 0,(.slice none 0 0)] 29 (0,0)))∧Aside0 (wc.heap[y]? =some (.cells #[.int .i64 0,.int .i64 0] 43 (0,0)))∧Aside0 (wc.heap[z]? =some (.cells #[.int .i64 O,(.slice b2 d.length Y)] 29 (0,0)))∧Aside0 (IsS130 w wc g682 Z a8 a9)∧Aside0 (Below w.heap.size w wc))
 case first=>
  have H:=g0.out;clear g0
  refine jb_ H ?_ ?_<;>clear H<;>intro b0 H
  ·have A:decide (0<(d.length:Int))=false:=decide_eq_false b0
   have a1:decide (0<d.length)=false:=decide_eq_false (by omega)
   clear b0
   (first|rw[A]|rw[a1]|(simp only[i64_w,i32_w];rw[A])|skip)
   have H' :=am_ H;clear H;obtain⟨p7,p8⟩:=nn_ a5;obtain⟨p9,q0⟩:=nn_ a6;obtain⟨q1,q2⟩:=nn_ c1
   obtain⟨m0,m1,m2,m3⟩:=bc2_ s
   go_wp2
   go_meet
   case rel=>exact⟨_,(false),(c5),(c6),qe_,H',⟨qo_⟩,⟨by(with_reducible repeat(first|apply Kd.R_alloc|apply Kd.R_drewN|apply Kd.R_drew));exact Kd.R_mono (Kd.R_far (p:=⟨z,1,none⟩) (Kd.R_far (p:=⟨z,0,none⟩) (Kd.R_types b9.out s.out (by decide)) (fun _ hk=>hk.2) (.int .i64 O)) (fun _ hk=>hk.2) (.slice b2 d.length Y)) (fun _ hk=>trivial)⟩,⟨qf_ m⟩,⟨qf_ q⟩,⟨qp_ s⟩,⟨qJ_⟩,⟨qB_⟩⟩
  have A:decide (0<(d.length:Int))=true:=decide_eq_true b0
  have a1:decide (0<d.length)=true:=decide_eq_true (by omega)
  clear b0
  (first|rw[A]|rw[a1]|(simp only[i64_w,i32_w];rw[A])|skip)
  obtain⟨⟨i5,i6,i7⟩,g1,H⟩:=bs_ H;dsimp only at H;have H' :=am_ H;clear H;obtain⟨q3,q4⟩:=nn_ a5;obtain⟨q5,q6⟩:=nn_ a6;obtain⟨q7,q8⟩:=nn_ c1
  obtain⟨m4,m5,m6,m7⟩:=bc2_ s
  go_wp2_with (first|(go_at_call 98;(with_reducible refine(spec_l01Once.calls g682 Z c5 c6 4 i5 i6 i7 w _ ?side1 ?side2 g1.out).mono ?_);(case side1=>exact qJ_);(case side2=>exact qB_);rintro e m8 ⟨rfl,hi,hb,hk⟩;replace m:=am_ (KeepBut.blk hk (g' :=x) (o:= .cells #[.int .i64 0,.slice none 0 0] 29 (0,0)) (qf_ m) c8.out (by simp));replace q:=am_ (KeepBut.blk hk (g' :=y) (o:= .cells #[.int .i64 0,.int .i64 0] 43 (0,0)) (qf_ q) c9.out (by simp));replace b9:=am_ (Kd.R_mono (Kd.R_keep (IsS130.apart (show IsS130 w _ g682 Z c5 c6 from qJ_) (by(with_reducible repeat(first|apply Kd.R_alloc|apply Kd.R_drewN|apply Kd.R_drew));exact(Kd.R_mono (Kd.R_far (p:=⟨z,1,none⟩) (Kd.R_far (p:=⟨z,0,none⟩) (Kd.R_types b9.out s.out (by decide)) (fun _ hk=>hk.2) (.int .i64 O)) (fun _ hk=>hk.2) (.slice b2 d.length Y)) (fun _ h_=>h_.1))) (by decide)) hk (fun _ h=>h.2)) (fun _ h=>h.1));replace s:=am_ (KeepBut.blk hk (g' :=z) (o:= .cells #[.int .i64 O,.slice b2 d.length Y] 29 (0,0)) (qp_ s) c1.out (by simp));replace HI682:=am_ (hi);replace HB:=am_ (hb);clear hb hk hi))
  go_meet
  case rel=>exact⟨_,(!i5),(i6),(i7),qe_,H',⟨qo_⟩,⟨ra_ b9⟩,⟨qk_ m⟩,⟨qk_ q⟩,⟨qk_ s⟩,⟨qJ_⟩,⟨qB_⟩⟩
 case rest=>
  clear g0 l5 l6 l7 l8
  obtain⟨kq,a7,a8,a9,rfl,HA,r4,c,m,q,s,HI682,HB⟩:=hcut
  cases kq with
  |zero=>exact absurd HA.out (by simp [spec_DrawRightWeb.j0])
  |succ kj3=>
   have H:=HA.out;clear HA
   simp only[spec_DrawRightWeb.j0]at H
   refine id_ H ?_ ?_<;>clear H<;>rintro rfl H
   ·obtain⟨⟨g2,g3,n8,n9⟩,g4,H⟩:=bs_ H;dsimp only at H
    simp only[Option.some.injEq,Prod.mk.injEq]at H
    obtain⟨rfl,rfl,rfl,rfl⟩:=H
    try go_wp2
    replace c:=rd_ c;replace m:=bd_ m;replace q:=bd_ q;replace s:=bd_ s;replace HI682:=am_ (IsS130.drew HI682.out);replace HB:=hd_ HB
    refine start_ (n:=7) (S:=fun w' =>w'.cell? ⟨z,0,none⟩=some (.int .i64 O)∧w'.cell? ⟨z,1,none⟩=some (.slice b2 d.length Y)) (ds:=[]) (bm 7 0) (by kernel_rfl) rfl (by kernel_rfl) ⟨bl_ s 0,bl_ s 1⟩ (fun hHeld=> ?_)
    generalize wc.drew=o0 at c m q s HI682 HB hHeld ⊢
    refine pure_ (i:=1) (N:=some 37) (v:= ?_) (a' := ?_) (bm 7 2) rfl rfl (by kernel_rfl) (fun _ _ _ h=>h) (Or.inl ⟨by rfl,?_⟩) ?_ ?_
    rotate_left
    ·intro w'
     go_simp
     with_reducible rfl
    rotate_left
    ·simp only[Act.put,sA_,sB_,sC_,i64_w,i32_w]
     rfl
    refine pure_ (i:=2) (N:=some 38) (v:= ?_) (a' := ?_) (bm 7 6) rfl rfl (by kernel_rfl) (fun _ _ _ h=>h) (Or.inl ⟨by rfl,?_⟩) ?_ ?_
    rotate_left
    ·intro w'
     go_simp
     with_reducible rfl
    rotate_left
    ·simp only[Act.put,sA_,sB_,sC_,i64_w,i32_w]
     rfl
    refine take_ (i:=0) (N:=some 36) (v:= ?_) (a' := ?_) (bm 7 7) rfl rfl (by kernel_rfl) (fun _ _ _ h=>h) (Or.inl ⟨by rfl,?_⟩) hHeld ?_ ?_
    rotate_left
    ·rintro w' ⟨o1,o2⟩
     go_simp
     with_reducible rfl
    rotate_left
    ·simp only[Act.put,sA_,sB_,sC_,i64_w,i32_w]
     rfl
    refine take_ (i:=3) (N:=some 39) (v:= ?_) (a' := ?_) (bm 7 15) rfl rfl (by kernel_rfl) (fun _ _ _ h=>h) (Or.inl ⟨by rfl,?_⟩) hHeld ?_ ?_
    rotate_left
    ·rintro w' ⟨o1,o2⟩
     go_simp
     with_reducible rfl
    rotate_left
    ·simp only[Act.put,sA_,sB_,sC_,i64_w,i32_w]
     rfl
    refine one_ (i:=4) (N:=some 40) (bm 7 31) rfl rfl (by kernel_rfl) (by decide) (fun K hK=> ?_)
    refine gs_ Try.func100 #[.pointer (some ⟨g682,0,none⟩),.int .i64 O] ?_
    with_reducible refine(spec_l05Edge.calls g682 Z a8 a9 O g2 g3 n8 n9 w _ ?side1 ?side2 g4.out).mono ?_
    (case side1=>exact qJ_)
    (case side2=>exact qB_)
    rintro e b3 ⟨rfl,hi,hb,hk⟩
    refine⟨_,rfl,?_⟩
    replace c:=am_ (Kd.R_mono (Kd.R_keep (IsS130.apart (show IsS130 w _ g682 Z a8 a9 from qJ_) (qR_ c) (by decide)) hk (fun _ h=>h.2)) (fun _ h=>h.1));replace m:=am_ (KeepBut.blk hk (g' :=x) (o:= .cells #[.int .i64 0,.slice none 0 0] 29 (0,0)) (qk_ m) c8.out (by simp));replace q:=am_ (KeepBut.blk hk (g' :=y) (o:= .cells #[.int .i64 0,.int .i64 0] 43 (0,0)) (qk_ q) c9.out (by simp));replace s:=am_ (KeepBut.blk hk (g' :=z) (o:= .cells #[.int .i64 O,.slice b2 d.length Y] 29 (0,0)) (qk_ s) c1.out (by simp));replace HI682:=am_ (hi);replace HB:=am_ (hb);clear hb hk hi
    refine hK.out _ _ ⟨bl_ s 0,bl_ s 1⟩ (fun hHeld=> ?_)
    clear hK K
    refine nm_ 40 ?_
    refine one_ (i:=5) (N:=none) (bm 7 63) rfl rfl (by kernel_rfl) (by decide) (fun K hK=> ?_)
    have i8:b3.cell? ⟨x,0,none⟩=some (.int .i64 0):=bl_ m 0
    have g5:=blk_frozen m.out 0
    have r5:=b8.out;have r6:=a5.out;have r7:=b7.out;have j1:=f5.out
    have i9:b3.cell? ⟨x,1,none⟩=some (.slice none 0 0):=bl_ m 1
    have g6:=blk_frozen m.out 1
    have j2:=b8.out;have j3:=a5.out;have j4:=b7.out;have r8:=f5.out
    refine skip_ (w1:= ?_) (by rfl) rfl ?_ ?_
    rotate_left
    ·go_simp
     rfl
    refine hK.out _ _ ⟨((cell_far (p:=⟨x,_,none⟩) a5.out _).trans (((cell_far (p:=⟨x,_,none⟩) a5.out _).trans (hHeld.1)))),((cell_far (p:=⟨x,_,none⟩) a5.out _).trans (((cell_far (p:=⟨x,_,none⟩) a5.out _).trans (hHeld.2))))⟩ (fun hHeld=> ?_)
    clear hK K
    refine one_ (i:=6) (N:=none) (bm 7 127) rfl rfl (by kernel_rfl) (by decide) (fun K hK=> ?_)
    have j5:b3.cell? ⟨y,0,none⟩=some (.int .i64 0):=bl_ q 0
    have g7:=blk_frozen q.out 0
    have r9:=b7.out;have s0:=a6.out;have s1:=b8.out;have s2:=f6.out
    have j6:b3.cell? ⟨y,1,none⟩=some (.int .i64 0):=bl_ q 1
    have g8:=blk_frozen q.out 1
    have s3:=b7.out;have s4:=a6.out;have s5:=b8.out;have s6:=f6.out
    refine skip_ (w1:= ?_) (by rfl) rfl ?_ ?_
    rotate_left
    ·go_simp
     rfl
    refine hK.out _ _ ⟨((cell_far (p:=⟨y,_,none⟩) a6.out _).trans (((cell_far (p:=⟨y,_,none⟩) a6.out _).trans (hHeld.1)))),((cell_far (p:=⟨y,_,none⟩) a6.out _).trans (((cell_far (p:=⟨y,_,none⟩) a6.out _).trans (hHeld.2))))⟩ (fun hHeld=> ?_)
    clear hK K
    refine done_ (by kernel_rfl) ?_
    try go_wp2
    refine bodyPost_ret (results_cc rfl _ _ x y 29 43 #[.int .i64 O,.slice b2 d.length Y] #[.int .i64 g2,.int .i64 g3] (0,0) (0,0) _ _ rfl (qp_ m) Try.underlying29 rfl (by kernel_rfl) rfl (qp_ q) Try.underlying43 rfl (by kernel_rfl)) rfl ?_
    exact⟨_,qr_,by(with_reducible repeat(first|apply Kd.R_alloc|apply Kd.R_drewN|apply Kd.R_drew));exact Kd.R_mono (Kd.R_far (p:=⟨y,1,none⟩) (Kd.R_far (p:=⟨y,0,none⟩) (Kd.R_far (p:=⟨x,1,none⟩) (Kd.R_far (p:=⟨x,0,none⟩) (Kd.R_types (Kd.R_types c.out m.out (by decide)) q.out (by decide)) (fun _ hk=>hk.1.2) (.int .i64 O)) (fun _ hk=>hk.1.2) (.slice b2 d.length Y)) (fun _ hk=>hk.2) (.int .i64 g2)) (fun _ hk=>hk.2) (.int .i64 g3)) (fun _ hk=>trivial),qB_⟩
   obtain⟨⟨l,c2,c3⟩,d0,H⟩:=bs_ H;dsimp only at H
   refine ig_ H ?_;clear H;intro g9 H
   refine ig_ H ?_;clear H;intro h0 H
   simp only[Option.some.injEq,Prod.mk.injEq]at H
   obtain⟨rfl,rfl,rfl,rfl⟩:=H
   try go_wp2
   replace c:=rd_ c;replace m:=bd_ m;replace q:=bd_ q;replace s:=bd_ s;replace HI682:=am_ (IsS130.drew HI682.out);replace HB:=hd_ HB
   have d1:=dt_ l
   have d2:=du_ l d.length
   obtain⟨a,d3,j7,j8,j9,k0⟩:=at_T72 (Kd.R_reads' c.out).2.2 l (ot_ d1) (ot_ d2)
   cases d3
   refine start_ (n:=11) (S:=fun w' =>w'.cell? ⟨z,0,none⟩=some (.int .i64 O)∧w'.cell? ⟨z,1,none⟩=some (.slice (some a) d.length Y)∧w'.cell? (a.add ((l).toNat * 4))=some (.int .i64 ((rd_T72 d l).f0))∧w'.cell? ⟨(a.add ((l).toNat * 4)).block,(a.add ((l).toNat * 4)).off + 1,none⟩=some (.int .i64 ((rd_T72 d l).f1))∧w'.cell? ⟨(a.add ((l).toNat * 4)).block,(a.add ((l).toNat * 4)).off + 2,none⟩=some (.int .i64 ((rd_T72 d l).f2))∧w'.cell? ⟨(a.add ((l).toNat * 4)).block,(a.add ((l).toNat * 4)).off + 3,none⟩=some (.bool ((rd_T72 d l).f3))) (ds:=[]) (bm 11 0) (by kernel_rfl) rfl (by kernel_rfl) ⟨bl_ s 0,bl_ s 1,j7,j8,j9,k0⟩ (fun hHeld=> ?_);refine with_tabW spec_DrawRightWeb.tab4 spec_DrawRightWeb.bits4 (fun HT_ HW_=> ?_)
   generalize wc.drew=o3 at c m q s HI682 HB j7 j8 j9 k0 hHeld ⊢
   refine pz_ 0 21 11 1 ?_;refine pz_ 2 23 11 5 ?_;refine pz_ 3 24 11 13 ?_;refine tz6_ 1 22 11 15 ?_;refine tz6_ 4 25 11 31 ?_;refine pz_ 5 26 11 63 ?_
   refine join_ (σ :=Nat) 1 #[true,true,true,true,true,true,true,true,true,true,false] (fun s_=>[(27,.int .i64 l),(6,.pointer (some ⟨s_,0,none⟩)),(28,.pointer (some (a.add ((l).toNat * 4)))),(29,.agg #[.int .i64 ((rd_T72 d l).f0),.int .i64 ((rd_T72 d l).f1),.int .i64 ((rd_T72 d l).f2),.bool ((rd_T72 d l).f3)])]) (fun s_ w' =>(w'.cell? ⟨z,0,none⟩=some (.int .i64 O)∧w'.cell? ⟨z,1,none⟩=some (.slice (some a) d.length Y)∧w'.cell? (a.add ((l).toNat * 4))=some (.int .i64 ((rd_T72 d l).f0))∧w'.cell? ⟨(a.add ((l).toNat * 4)).block,(a.add ((l).toNat * 4)).off + 1,none⟩=some (.int .i64 ((rd_T72 d l).f1))∧w'.cell? ⟨(a.add ((l).toNat * 4)).block,(a.add ((l).toNat * 4)).off + 2,none⟩=some (.int .i64 ((rd_T72 d l).f2))∧w'.cell? ⟨(a.add ((l).toNat * 4)).block,(a.add ((l).toNat * 4)).off + 3,none⟩=some (.bool ((rd_T72 d l).f3)))∧(Kd.R k72 72 w' w.heap.size (fun k_=>k_≠s_) (.slice (some a) d.length Y) d)∧(w'.heap[x]? =some (.cells #[.int .i64 0,.slice none 0 0] 29 (0,0)))∧(w'.heap[y]? =some (.cells #[.int .i64 0,.int .i64 0] 43 (0,0)))∧(w'.heap[z]? =some (.cells #[.int .i64 O,.slice (some a) d.length Y] 29 (0,0)))∧(w'.heap[s_]? =some (.cells #[.int .i64 0,.int .i64 0,.int .i64 0,.bool false] 72 (0,0)))∧(w.heap.size≤s_)∧(w.heap.size≤s_)∧(g682≠s_)∧(s_≠g682)∧(x≠s_)∧(s_≠x)∧(y≠s_)∧(s_≠y)∧(z≠s_)∧(s_≠z)∧(IsS130 w w' g682 Z c2 c3)∧(Below w.heap.size w w')) ?_ ?_
   rotate_left
   ·intro hCont
    refine two_ (i:=6) (j:=9) (Ni:=some 27) (Nj:=some 6) (bm 11 127) #[true,true,true,true,true,true,false,false,false,true,false] rfl rfl rfl rfl (two_of HT_.out (by kernel_rfl)) (by decide) (by decide) (fun K hK=> ?_) (fun K hK=> ?_)
    ·skip
     refine gs_ Try.func99 #[.pointer (some ⟨g682,0,none⟩),.int .i64 (d.length:Int)] ?_
     with_reducible refine(spec_l01Below.calls g682 Z a8 a9 (d.length:Int) l c2 c3 w _ ?side1 ?side2 d0.out).mono ?_
     (case side1=>exact qJ_)
     (case side2=>exact qB_)
     rintro e h1 ⟨rfl,hi,hb,hk⟩
     have HS2_:=keep_cell hk (hHeld.2.2.1) (by first|(rw[add_block];exact Kd.own_blk (IsS130.own_ne HI682.out c.out (by decide)))|(show(Addr.add _ _).block≠_;rw[add_block];exact Kd.own_blk (IsS130.own_ne HI682.out c.out (by decide)))|exact Kd.own_blk (IsS130.own_ne HI682.out c.out (by decide)))
     have HS3_:=keep_cell hk (hHeld.2.2.2.1) (by first|(rw[add_block];exact Kd.own_blk (IsS130.own_ne HI682.out c.out (by decide)))|(show(Addr.add _ _).block≠_;rw[add_block];exact Kd.own_blk (IsS130.own_ne HI682.out c.out (by decide)))|exact Kd.own_blk (IsS130.own_ne HI682.out c.out (by decide)))
     have HS4_:=keep_cell hk (hHeld.2.2.2.2.1) (by first|(rw[add_block];exact Kd.own_blk (IsS130.own_ne HI682.out c.out (by decide)))|(show(Addr.add _ _).block≠_;rw[add_block];exact Kd.own_blk (IsS130.own_ne HI682.out c.out (by decide)))|exact Kd.own_blk (IsS130.own_ne HI682.out c.out (by decide)))
     have HS5_:=keep_cell hk (hHeld.2.2.2.2.2) (by first|(rw[add_block];exact Kd.own_blk (IsS130.own_ne HI682.out c.out (by decide)))|(show(Addr.add _ _).block≠_;rw[add_block];exact Kd.own_blk (IsS130.own_ne HI682.out c.out (by decide)))|exact Kd.own_blk (IsS130.own_ne HI682.out c.out (by decide)))
     refine⟨_,rfl,?_⟩
     replace c:=am_ (Kd.R_mono (Kd.R_keep (IsS130.apart (show IsS130 w _ g682 Z a8 a9 from qJ_) (qR_ c) (by decide)) hk (fun _ h=>h.2)) (fun _ h=>h.1));replace m:=am_ (KeepBut.blk hk (g' :=x) (o:= .cells #[.int .i64 0,.slice none 0 0] 29 (0,0)) (qk_ m) c8.out (by simp));replace q:=am_ (KeepBut.blk hk (g' :=y) (o:= .cells #[.int .i64 0,.int .i64 0] 43 (0,0)) (qk_ q) c9.out (by simp));replace s:=am_ (KeepBut.blk hk (g' :=z) (o:= .cells #[.int .i64 O,.slice (some a) d.length Y] 29 (0,0)) (qk_ s) c1.out (by simp));replace HI682:=am_ (hi);replace HB:=am_ (hb);clear hb hk hi
     refine hK.out _ _ ⟨bl_ s 0,bl_ s 1,HS2_,HS3_,HS4_,HS5_⟩ (fun hHeld=> ?_)
     clear hK K
     refine nm_ 27 ?_
     refine pz_ 7 28 11 255 ?_;refine tz6_ 8 29 11 511 ?_
     refine o1_ 9 (some 6) 11 1023 (fun K hK=> ?_)
     refine box_step ?hg (N:=6) ?hd (cs:= #[.int .i64 0,.int .i64 0,.int .i64 0,.bool false]) (t:=72) ?hr ?_;(case hd=>rfl);(case hg=>rfl);(case hr=>first|(go_simp;done)|(go_simp;rfl))
     intro g hg h2 hbox hb
     have HS2_:=(hb.cell (World.block_lt_of_cell? _ _ (hHeld.2.2.1))).trans (hHeld.2.2.1)
     have HS3_:=(hb.cell (World.block_lt_of_cell? _ _ (hHeld.2.2.2.1))).trans (hHeld.2.2.2.1)
     have HS4_:=(hb.cell (World.block_lt_of_cell? _ _ (hHeld.2.2.2.2.1))).trans (hHeld.2.2.2.2.1)
     have HS5_:=(hb.cell (World.block_lt_of_cell? _ _ (hHeld.2.2.2.2.2))).trans (hHeld.2.2.2.2.2)
     have D:=am_ (Kd.R_below (Kd.R_elderB (qR_ c) g (Nat.le_of_eq hg.symm)) hb)
     have E:=qbl_ m hb
     have F:=qbl_ q hb
     have G:=qbl_ s hb
     have I:=am_ (IsS130.below (qJ_) hb)
     have J:=am_ (below_step (qB_) hb)
     have L:=am_ (hbox)
     have a3:=am_ ((by rw[hg];exact(below_size (qB_)):w.heap.size≤g))
     have a4:=am_ ((by rw[hg];exact(below_size (qB_)):w.heap.size≤g))
     have B:=(qn_ m hg).1
     have n10_:=(qn_ m hg).2
     have n11_:=(qn_ q hg).1
     have n12_:=(qn_ q hg).2
     have n13_:=(qn_ s hg).1
     have n14_:=(qn_ s hg).2
     have n15_:=am_ ((by rw[hg];exact Nat.ne_of_lt (IsS130.lt (show IsS130 w _ g682 Z c2 c3 from qJ_)):g682≠g))
     have n16_:=am_ ((by rw[hg];exact Nat.ne_of_gt (IsS130.lt (show IsS130 w _ g682 Z c2 c3 from qJ_)):g≠g682))
     clear c m q s HI682 HB;have c:=D;have m:=E;have q:=F;have s:=G;have HI682:=I;have HB:=J;have M:=L;have f7:=a3;have b4:=a4;have c0:=n14_;have b5:=n15_;have d4:=n16_;clear D E F G I J L a3 a4 n14_ n15_ n16_ hb hbox hg
     refine hK.out _ _ ⟨bl_ s 0,bl_ s 1,HS2_,HS3_,HS4_,HS5_⟩ (fun hHeld=> ?_)
     clear hK K
     refine nm_ 6 ?_
     exact norm_ (by simp only[putAll,Act.put,sA_,sB_,sC_]) (hCont (g) _ ⟨hHeld,(by(with_reducible repeat(first|apply Kd.R_alloc|apply Kd.R_drewN|apply Kd.R_drew));exact Kd.R_mono c.out (fun _ hk=>hk.2)),(qk_ m),(qk_ q),(qk_ s),(qk_ M),f7.out,b4.out,b5.out,d4.out,B.out,n10_.out,n11_.out,n12_.out,n13_.out,c0.out,(qJ_),(qB_)⟩)
    skip
    refine box_step ?hg (N:=6) ?hd (cs:= #[.int .i64 0,.int .i64 0,.int .i64 0,.bool false]) (t:=72) ?hr ?_;(case hd=>rfl);(case hg=>rfl);(case hr=>first|(go_simp;done)|(go_simp;rfl))
    intro g hg h1 hbox hb
    have HS2_:=(hb.cell (World.block_lt_of_cell? _ _ (hHeld.2.2.1))).trans (hHeld.2.2.1)
    have HS3_:=(hb.cell (World.block_lt_of_cell? _ _ (hHeld.2.2.2.1))).trans (hHeld.2.2.2.1)
    have HS4_:=(hb.cell (World.block_lt_of_cell? _ _ (hHeld.2.2.2.2.1))).trans (hHeld.2.2.2.2.1)
    have HS5_:=(hb.cell (World.block_lt_of_cell? _ _ (hHeld.2.2.2.2.2))).trans (hHeld.2.2.2.2.2)
    have D:=am_ (Kd.R_below (Kd.R_elderB (qR_ c) g (Nat.le_of_eq hg.symm)) hb)
    have E:=qbl_ m hb
    have F:=qbl_ q hb
    have G:=qbl_ s hb
    have I:=am_ (IsS130.below (qJ_) hb)
    have J:=am_ (below_step (qB_) hb)
    have L:=am_ (hbox)
    have a3:=am_ ((by rw[hg];exact(below_size (qB_)):w.heap.size≤g))
    have a4:=am_ ((by rw[hg];exact(below_size (qB_)):w.heap.size≤g))
    have B:=(qn_ m hg).1
    have n10_:=(qn_ m hg).2
    have n11_:=(qn_ q hg).1
    have n12_:=(qn_ q hg).2
    have n13_:=(qn_ s hg).1
    have n14_:=(qn_ s hg).2
    have n15_:=am_ ((by rw[hg];exact Nat.ne_of_lt (IsS130.lt (show IsS130 w _ g682 Z a8 a9 from qJ_)):g682≠g))
    have n16_:=am_ ((by rw[hg];exact Nat.ne_of_gt (IsS130.lt (show IsS130 w _ g682 Z a8 a9 from qJ_)):g≠g682))
    clear c m q s HI682 HB;have c:=D;have m:=E;have q:=F;have s:=G;have HI682:=I;have HB:=J;have M:=L;have f7:=a3;have b4:=a4;have c0:=n14_;have b5:=n15_;have d4:=n16_;clear D E F G I J L a3 a4 n14_ n15_ n16_ hb hbox hg
    refine hK.out _ _ ⟨bl_ s 0,bl_ s 1,HS2_,HS3_,HS4_,HS5_⟩ (fun hHeld=> ?_)
    clear hK K
    refine nm_ 6 ?_
    refine o1_ 6 (some 27) 11 639 (fun K hK=> ?_)
    refine gs_ Try.func99 #[.pointer (some ⟨g682,0,none⟩),.int .i64 (d.length:Int)] ?_
    with_reducible refine(spec_l01Below.calls g682 Z a8 a9 (d.length:Int) l c2 c3 w _ ?side1 ?side2 d0.out).mono ?_
    (case side1=>exact qJ_)
    (case side2=>exact qB_)
    rintro e h2 ⟨rfl,hi,hb,hk⟩
    have HS2_:=keep_cell hk (hHeld.2.2.1) (by first|(rw[add_block];exact Kd.own_blk (IsS130.own_ne HI682.out c.out (by decide)))|(show(Addr.add _ _).block≠_;rw[add_block];exact Kd.own_blk (IsS130.own_ne HI682.out c.out (by decide)))|exact Kd.own_blk (IsS130.own_ne HI682.out c.out (by decide)))
    have HS3_:=keep_cell hk (hHeld.2.2.2.1) (by first|(rw[add_block];exact Kd.own_blk (IsS130.own_ne HI682.out c.out (by decide)))|(show(Addr.add _ _).block≠_;rw[add_block];exact Kd.own_blk (IsS130.own_ne HI682.out c.out (by decide)))|exact Kd.own_blk (IsS130.own_ne HI682.out c.out (by decide)))
    have HS4_:=keep_cell hk (hHeld.2.2.2.2.1) (by first|(rw[add_block];exact Kd.own_blk (IsS130.own_ne HI682.out c.out (by decide)))|(show(Addr.add _ _).block≠_;rw[add_block];exact Kd.own_blk (IsS130.own_ne HI682.out c.out (by decide)))|exact Kd.own_blk (IsS130.own_ne HI682.out c.out (by decide)))
    have HS5_:=keep_cell hk (hHeld.2.2.2.2.2) (by first|(rw[add_block];exact Kd.own_blk (IsS130.own_ne HI682.out c.out (by decide)))|(show(Addr.add _ _).block≠_;rw[add_block];exact Kd.own_blk (IsS130.own_ne HI682.out c.out (by decide)))|exact Kd.own_blk (IsS130.own_ne HI682.out c.out (by decide)))
    refine⟨_,rfl,?_⟩
    replace c:=am_ (Kd.R_mono (Kd.R_keep (IsS130.apart (show IsS130 w _ g682 Z a8 a9 from qJ_) (qR_ c) (by decide)) hk (fun _ h=>h.2)) (fun _ h=>h.1));replace m:=am_ (KeepBut.blk hk (g' :=x) (o:= .cells #[.int .i64 0,.slice none 0 0] 29 (0,0)) (qk_ m) c8.out (by simp));replace q:=am_ (KeepBut.blk hk (g' :=y) (o:= .cells #[.int .i64 0,.int .i64 0] 43 (0,0)) (qk_ q) c9.out (by simp));replace s:=am_ (KeepBut.blk hk (g' :=z) (o:= .cells #[.int .i64 O,.slice (some a) d.length Y] 29 (0,0)) (qk_ s) c1.out (by simp));replace M:=am_ (KeepBut.blk hk (g' :=g) (o:= .cells #[.int .i64 0,.int .i64 0,.int .i64 0,.bool false] 72 (0,0)) (qk_ M) d4.out (by simp));replace HI682:=am_ (hi);replace HB:=am_ (hb);clear hb hk hi
    refine hK.out _ _ ⟨bl_ s 0,bl_ s 1,HS2_,HS3_,HS4_,HS5_⟩ (fun hHeld=> ?_)
    clear hK K
    refine nm_ 27 ?_
    refine pz_ 7 28 11 767 ?_;refine tz6_ 8 29 11 1023 ?_
    exact norm_ (by simp only[putAll,Act.put,sA_,sB_,sC_]) (hCont (g) _ ⟨hHeld,(by(with_reducible repeat(first|apply Kd.R_alloc|apply Kd.R_drewN|apply Kd.R_drew));exact Kd.R_mono c.out (fun _ hk=>hk.2)),(qk_ m),(qk_ q),(qk_ s),(qk_ M),f7.out,b4.out,b5.out,d4.out,B.out,n10_.out,n11_.out,n12_.out,n13_.out,c0.out,(qJ_),(qB_)⟩)
   rintro g u ⟨hS_,d5,d6,d7,d8,d9,e0,e1,e2,e3,e4,h10_,h11_,h12_,h13_,h14_,h15_,h16_⟩
   have D:Aside0 (Kd.R k72 72 u w.heap.size (fun k_=>k_≠g) (.slice (some a) d.length Y) d):=⟨d5⟩
   have E:Aside0 (u.heap[x]? =some (.cells #[.int .i64 0,.slice none 0 0] 29 (0,0))):=⟨d6⟩
   have F:Aside0 (u.heap[y]? =some (.cells #[.int .i64 0,.int .i64 0] 43 (0,0))):=⟨d7⟩
   have G:Aside0 (u.heap[z]? =some (.cells #[.int .i64 O,.slice (some a) d.length Y] 29 (0,0))):=⟨d8⟩
   have I:Aside0 (u.heap[g]? =some (.cells #[.int .i64 0,.int .i64 0,.int .i64 0,.bool false] 72 (0,0))):=⟨d9⟩
   have J:Aside0 (w.heap.size≤g):=⟨e0⟩
   have L:Aside0 (w.heap.size≤g):=⟨e1⟩
   have a3:Aside0 (g682≠g):=⟨e2⟩
   have a4:Aside0 (g≠g682):=⟨e3⟩
   have B:Aside0 (x≠g):=⟨e4⟩
   have n10_:Aside0 (g≠x):=⟨h10_⟩
   have n11_:Aside0 (y≠g):=⟨h11_⟩
   have n12_:Aside0 (g≠y):=⟨h12_⟩
   have n13_:Aside0 (z≠g):=⟨h13_⟩
   have n14_:Aside0 (g≠z):=⟨h14_⟩
   have n15_:Aside0 (IsS130 w u g682 Z c2 c3):=⟨h15_⟩
   have n16_:Aside0 (Below w.heap.size w u):=⟨h16_⟩
   clear c m q s HI682 HB d5 d6 d7 d8 d9 e0 e1 e2 e3 e4 h10_ h11_ h12_ h13_ h14_ h15_ h16_;have c:=D;have m:=E;have q:=F;have s:=G;have M:=I;have f7:=J;have b4:=L;have b5:=a3;have d4:=a4;have c0:=n14_;have HI682:=n15_;have HB:=n16_;clear D E F G I J L a3 a4 n14_ n15_ n16_
   have hHeld:u.cell? ⟨z,0,none⟩=some (.int .i64 O)∧u.cell? ⟨z,1,none⟩=some (.slice (some a) d.length Y)∧u.cell? (a.add ((l).toNat * 4))=some (.int .i64 ((rd_T72 d l).f0))∧u.cell? ⟨(a.add ((l).toNat * 4)).block,(a.add ((l).toNat * 4)).off + 1,none⟩=some (.int .i64 ((rd_T72 d l).f1))∧u.cell? ⟨(a.add ((l).toNat * 4)).block,(a.add ((l).toNat * 4)).off + 2,none⟩=some (.int .i64 ((rd_T72 d l).f2))∧u.cell? ⟨(a.add ((l).toNat * 4)).block,(a.add ((l).toNat * 4)).off + 3,none⟩=some (.bool ((rd_T72 d l).f3)):=hS_
   refine norm_ (a' := ?_) ?_ ?_
   rotate_left
   ·simp only[putAll,Act.put,sA_,sB_,sC_]
    rfl
   refine o1_ 10 none 11 2047 (fun K hK=> ?_)
   have k1:u.cell? ⟨g,0,none⟩=some (.int .i64 0):=bl_ M 0
   have h3:=blk_frozen M.out 0
   have s7:=B.out;have s8:=n11_.out;have s9:=n13_.out;have t0:=n10_.out;have t1:=n12_.out;have t2:=c0.out
   have k2:u.cell? ⟨g,1,none⟩=some (.int .i64 0):=bl_ M 1
   have h4:=blk_frozen M.out 1
   have l1:=B.out;have l2:=n11_.out;have l3:=n13_.out;have t3:=n10_.out;have t4:=n12_.out;have t5:=c0.out
   have k3:u.cell? ⟨g,2,none⟩=some (.int .i64 0):=bl_ M 2
   have h5:=blk_frozen M.out 2
   have t6:=B.out;have t7:=n11_.out;have t8:=n13_.out;have t9:=n10_.out;have w0:=n12_.out;have w2:=c0.out
   have k4:u.cell? ⟨g,3,none⟩=some (.bool false):=bl_ M 3
   have h6:=blk_frozen M.out 3
   have w3:=B.out;have w4:=n11_.out;have w5:=n13_.out;have w6:=n10_.out;have w7:=n12_.out;have w8:=c0.out
   refine skip_ (w1:= ?_) (by rfl) rfl ?_ ?_
   rotate_left
   ·go_simp
    rfl
   refine hK.out _ _ ⟨((cell_far (p:=⟨g,_,none⟩) n13_.out _).trans (((cell_far (p:=⟨g,_,none⟩) n13_.out _).trans (((cell_far (p:=⟨g,_,none⟩) n13_.out _).trans (((cell_far (p:=⟨g,_,none⟩) n13_.out _).trans (hHeld.1)))))))),((cell_far (p:=⟨g,_,none⟩) n13_.out _).trans (((cell_far (p:=⟨g,_,none⟩) n13_.out _).trans (((cell_far (p:=⟨g,_,none⟩) n13_.out _).trans (((cell_far (p:=⟨g,_,none⟩) n13_.out _).trans (hHeld.2.1)))))))),((cell_far (p:=⟨g,_,none⟩) (by first|exact Kd.own_blk (Kd.R_away c.out (fun _ hk=>hk))|(rw[add_block];exact Kd.own_blk (Kd.R_away c.out (fun _ hk=>hk)))|(show(Addr.add _ _).block≠_;rw[add_block];exact Kd.own_blk (Kd.R_away c.out (fun _ hk=>hk)))|(dsimp only;exact Kd.own_blk (Kd.R_away c.out (fun _ hk=>hk)))) _).trans (((cell_far (p:=⟨g,_,none⟩) (by first|exact Kd.own_blk (Kd.R_away c.out (fun _ hk=>hk))|(rw[add_block];exact Kd.own_blk (Kd.R_away c.out (fun _ hk=>hk)))|(show(Addr.add _ _).block≠_;rw[add_block];exact Kd.own_blk (Kd.R_away c.out (fun _ hk=>hk)))|(dsimp only;exact Kd.own_blk (Kd.R_away c.out (fun _ hk=>hk)))) _).trans (((cell_far (p:=⟨g,_,none⟩) (by first|exact Kd.own_blk (Kd.R_away c.out (fun _ hk=>hk))|(rw[add_block];exact Kd.own_blk (Kd.R_away c.out (fun _ hk=>hk)))|(show(Addr.add _ _).block≠_;rw[add_block];exact Kd.own_blk (Kd.R_away c.out (fun _ hk=>hk)))|(dsimp only;exact Kd.own_blk (Kd.R_away c.out (fun _ hk=>hk)))) _).trans (((cell_far (p:=⟨g,_,none⟩) (by first|exact Kd.own_blk (Kd.R_away c.out (fun _ hk=>hk))|(rw[add_block];exact Kd.own_blk (Kd.R_away c.out (fun _ hk=>hk)))|(show(Addr.add _ _).block≠_;rw[add_block];exact Kd.own_blk (Kd.R_away c.out (fun _ hk=>hk)))|(dsimp only;exact Kd.own_blk (Kd.R_away c.out (fun _ hk=>hk)))) _).trans (hHeld.2.2.1)))))))),((cell_far (p:=⟨g,_,none⟩) (by first|exact Kd.own_blk (Kd.R_away c.out (fun _ hk=>hk))|(rw[add_block];exact Kd.own_blk (Kd.R_away c.out (fun _ hk=>hk)))|(show(Addr.add _ _).block≠_;rw[add_block];exact Kd.own_blk (Kd.R_away c.out (fun _ hk=>hk)))|(dsimp only;exact Kd.own_blk (Kd.R_away c.out (fun _ hk=>hk)))) _).trans (((cell_far (p:=⟨g,_,none⟩) (by first|exact Kd.own_blk (Kd.R_away c.out (fun _ hk=>hk))|(rw[add_block];exact Kd.own_blk (Kd.R_away c.out (fun _ hk=>hk)))|(show(Addr.add _ _).block≠_;rw[add_block];exact Kd.own_blk (Kd.R_away c.out (fun _ hk=>hk)))|(dsimp only;exact Kd.own_blk (Kd.R_away c.out (fun _ hk=>hk)))) _).trans (((cell_far (p:=⟨g,_,none⟩) (by first|exact Kd.own_blk (Kd.R_away c.out (fun _ hk=>hk))|(rw[add_block];exact Kd.own_blk (Kd.R_away c.out (fun _ hk=>hk)))|(show(Addr.add _ _).block≠_;rw[add_block];exact Kd.own_blk (Kd.R_away c.out (fun _ hk=>hk)))|(dsimp only;exact Kd.own_blk (Kd.R_away c.out (fun _ hk=>hk)))) _).trans (((cell_far (p:=⟨g,_,none⟩) (by first|exact Kd.own_blk (Kd.R_away c.out (fun _ hk=>hk))|(rw[add_block];exact Kd.own_blk (Kd.R_away c.out (fun _ hk=>hk)))|(show(Addr.add _ _).block≠_;rw[add_block];exact Kd.own_blk (Kd.R_away c.out (fun _ hk=>hk)))|(dsimp only;exact Kd.own_blk (Kd.R_away c.out (fun _ hk=>hk)))) _).trans (hHeld.2.2.2.1)))))))),((cell_far (p:=⟨g,_,none⟩) (by first|exact Kd.own_blk (Kd.R_away c.out (fun _ hk=>hk))|(rw[add_block];exact Kd.own_blk (Kd.R_away c.out (fun _ hk=>hk)))|(show(Addr.add _ _).block≠_;rw[add_block];exact Kd.own_blk (Kd.R_away c.out (fun _ hk=>hk)))|(dsimp only;exact Kd.own_blk (Kd.R_away c.out (fun _ hk=>hk)))) _).trans (((cell_far (p:=⟨g,_,none⟩) (by first|exact Kd.own_blk (Kd.R_away c.out (fun _ hk=>hk))|(rw[add_block];exact Kd.own_blk (Kd.R_away c.out (fun _ hk=>hk)))|(show(Addr.add _ _).block≠_;rw[add_block];exact Kd.own_blk (Kd.R_away c.out (fun _ hk=>hk)))|(dsimp only;exact Kd.own_blk (Kd.R_away c.out (fun _ hk=>hk)))) _).trans (((cell_far (p:=⟨g,_,none⟩) (by first|exact Kd.own_blk (Kd.R_away c.out (fun _ hk=>hk))|(rw[add_block];exact Kd.own_blk (Kd.R_away c.out (fun _ hk=>hk)))|(show(Addr.add _ _).block≠_;rw[add_block];exact Kd.own_blk (Kd.R_away c.out (fun _ hk=>hk)))|(dsimp only;exact Kd.own_blk (Kd.R_away c.out (fun _ hk=>hk)))) _).trans (((cell_far (p:=⟨g,_,none⟩) (by first|exact Kd.own_blk (Kd.R_away c.out (fun _ hk=>hk))|(rw[add_block];exact Kd.own_blk (Kd.R_away c.out (fun _ hk=>hk)))|(show(Addr.add _ _).block≠_;rw[add_block];exact Kd.own_blk (Kd.R_away c.out (fun _ hk=>hk)))|(dsimp only;exact Kd.own_blk (Kd.R_away c.out (fun _ hk=>hk)))) _).trans (hHeld.2.2.2.2.1)))))))),((cell_far (p:=⟨g,_,none⟩) (by first|exact Kd.own_blk (Kd.R_away c.out (fun _ hk=>hk))|(rw[add_block];exact Kd.own_blk (Kd.R_away c.out (fun _ hk=>hk)))|(show(Addr.add _ _).block≠_;rw[add_block];exact Kd.own_blk (Kd.R_away c.out (fun _ hk=>hk)))|(dsimp only;exact Kd.own_blk (Kd.R_away c.out (fun _ hk=>hk)))) _).trans (((cell_far (p:=⟨g,_,none⟩) (by first|exact Kd.own_blk (Kd.R_away c.out (fun _ hk=>hk))|(rw[add_block];exact Kd.own_blk (Kd.R_away c.out (fun _ hk=>hk)))|(show(Addr.add _ _).block≠_;rw[add_block];exact Kd.own_blk (Kd.R_away c.out (fun _ hk=>hk)))|(dsimp only;exact Kd.own_blk (Kd.R_away c.out (fun _ hk=>hk)))) _).trans (((cell_far (p:=⟨g,_,none⟩) (by first|exact Kd.own_blk (Kd.R_away c.out (fun _ hk=>hk))|(rw[add_block];exact Kd.own_blk (Kd.R_away c.out (fun _ hk=>hk)))|(show(Addr.add _ _).block≠_;rw[add_block];exact Kd.own_blk (Kd.R_away c.out (fun _ hk=>hk)))|(dsimp only;exact Kd.own_blk (Kd.R_away c.out (fun _ hk=>hk)))) _).trans (((cell_far (p:=⟨g,_,none⟩) (by first|exact Kd.own_blk (Kd.R_away c.out (fun _ hk=>hk))|(rw[add_block];exact Kd.own_blk (Kd.R_away c.out (fun _ hk=>hk)))|(show(Addr.add _ _).block≠_;rw[add_block];exact Kd.own_blk (Kd.R_away c.out (fun _ hk=>hk)))|(dsimp only;exact Kd.own_blk (Kd.R_away c.out (fun _ hk=>hk)))) _).trans (hHeld.2.2.2.2.2))))))))⟩ (fun hHeld=> ?_)
   clear hK K
   refine done_ (done_of HT_.out (by kernel_rfl)) ?_
   try go_wp2
   have D:Aside0 (Kd.R k72 72 ((((u.setCell ⟨g,0,none⟩ (.int .i64 ((rd_T72 d l).f0))).setCell ⟨g,1,none⟩ (.int .i64 ((rd_T72 d l).f1))).setCell ⟨g,2,none⟩ (.int .i64 ((rd_T72 d l).f2))).setCell ⟨g,3,none⟩ (.bool ((rd_T72 d l).f3))) w.heap.size (fun k_=>k_≠g) (.slice (some a) d.length Y) d):=⟨by(with_reducible repeat(first|apply Kd.R_alloc|apply Kd.R_drewN|apply Kd.R_drew));exact Kd.R_mono (Kd.R_far (p:=⟨g,3,none⟩) (Kd.R_far (p:=⟨g,2,none⟩) (Kd.R_far (p:=⟨g,1,none⟩) (Kd.R_far (p:=⟨g,0,none⟩) (Kd.R_mono c.out (fun k_ hk=>(⟨hk,hk⟩:_∧k_≠g))) (fun _ hk=>hk.2) (.int .i64 ((rd_T72 d l).f0))) (fun _ hk=>hk.2) (.int .i64 ((rd_T72 d l).f1))) (fun _ hk=>hk.2) (.int .i64 ((rd_T72 d l).f2))) (fun _ hk=>hk.2) (.bool ((rd_T72 d l).f3))) (fun _ hk=>hk.1)⟩
   have E:Aside0 (((((u.setCell ⟨g,0,none⟩ (.int .i64 ((rd_T72 d l).f0))).setCell ⟨g,1,none⟩ (.int .i64 ((rd_T72 d l).f1))).setCell ⟨g,2,none⟩ (.int .i64 ((rd_T72 d l).f2))).setCell ⟨g,3,none⟩ (.bool ((rd_T72 d l).f3))).heap[x]? =some (.cells #[.int .i64 0,.slice none 0 0] 29 (0,0))):=⟨qf_ m⟩
   have F:Aside0 (((((u.setCell ⟨g,0,none⟩ (.int .i64 ((rd_T72 d l).f0))).setCell ⟨g,1,none⟩ (.int .i64 ((rd_T72 d l).f1))).setCell ⟨g,2,none⟩ (.int .i64 ((rd_T72 d l).f2))).setCell ⟨g,3,none⟩ (.bool ((rd_T72 d l).f3))).heap[y]? =some (.cells #[.int .i64 0,.int .i64 0] 43 (0,0))):=⟨qf_ q⟩
   have G:Aside0 (((((u.setCell ⟨g,0,none⟩ (.int .i64 ((rd_T72 d l).f0))).setCell ⟨g,1,none⟩ (.int .i64 ((rd_T72 d l).f1))).setCell ⟨g,2,none⟩ (.int .i64 ((rd_T72 d l).f2))).setCell ⟨g,3,none⟩ (.bool ((rd_T72 d l).f3))).heap[z]? =some (.cells #[.int .i64 O,.slice (some a) d.length Y] 29 (0,0))):=⟨qf_ s⟩
   have I:Aside0 (((((u.setCell ⟨g,0,none⟩ (.int .i64 ((rd_T72 d l).f0))).setCell ⟨g,1,none⟩ (.int .i64 ((rd_T72 d l).f1))).setCell ⟨g,2,none⟩ (.int .i64 ((rd_T72 d l).f2))).setCell ⟨g,3,none⟩ (.bool ((rd_T72 d l).f3))).heap[g]? =some (.cells #[.int .i64 ((rd_T72 d l).f0),.int .i64 ((rd_T72 d l).f1),.int .i64 ((rd_T72 d l).f2),.bool ((rd_T72 d l).f3)] 72 (0,0))):=⟨qp_ M⟩
   have J:Aside0 (IsS130 w ((((u.setCell ⟨g,0,none⟩ (.int .i64 ((rd_T72 d l).f0))).setCell ⟨g,1,none⟩ (.int .i64 ((rd_T72 d l).f1))).setCell ⟨g,2,none⟩ (.int .i64 ((rd_T72 d l).f2))).setCell ⟨g,3,none⟩ (.bool ((rd_T72 d l).f3))) g682 Z c2 c3):=⟨qJ_⟩
   have L:Aside0 (Below w.heap.size w ((((u.setCell ⟨g,0,none⟩ (.int .i64 ((rd_T72 d l).f0))).setCell ⟨g,1,none⟩ (.int .i64 ((rd_T72 d l).f1))).setCell ⟨g,2,none⟩ (.int .i64 ((rd_T72 d l).f2))).setCell ⟨g,3,none⟩ (.bool ((rd_T72 d l).f3)))):=⟨qB_⟩
   clear c m q s M HI682 HB
   generalize ((((u.setCell ⟨g,0,none⟩ (.int .i64 ((rd_T72 d l).f0))).setCell ⟨g,1,none⟩ (.int .i64 ((rd_T72 d l).f1))).setCell ⟨g,2,none⟩ (.int .i64 ((rd_T72 d l).f2))).setCell ⟨g,3,none⟩ (.bool ((rd_T72 d l).f3)))=h7 at D E F G I J L ⊢
   have c:=D;have m:=E;have q:=F;have s:=G;have M:=I;have HI682:=J;have HB:=L;clear D E F G I J L
   replace c:=rd_ c;replace m:=bd_ m;replace q:=bd_ q;replace s:=bd_ s;replace M:=bd_ M;replace HI682:=am_ (IsS130.drew HI682.out);replace HB:=hd_ HB
   refine start_ (n:=8) (S:=fun w' =>w'.cell? ⟨z,0,none⟩=some (.int .i64 O)∧w'.cell? ⟨z,1,none⟩=some (.slice (some a) d.length Y)∧w'.cell? ⟨g,0,none⟩=some (.int .i64 ((rd_T72 d l).f0))∧w'.cell? ⟨g,1,none⟩=some (.int .i64 ((rd_T72 d l).f1))∧w'.cell? ⟨g,2,none⟩=some (.int .i64 ((rd_T72 d l).f2))∧w'.cell? ⟨g,3,none⟩=some (.bool ((rd_T72 d l).f3))) (ds:=[]) (bm 8 0) (by kernel_rfl) rfl (by kernel_rfl) ⟨bl_ s 0,bl_ s 1,bl_ M 0,bl_ M 1,bl_ M 2,bl_ M 3⟩ (fun hHeld=> ?_);refine with_tabW spec_DrawRightWeb.tab5 spec_DrawRightWeb.bits5 (fun HT_ HW_=> ?_)
   generalize h7.drew=b6 at c m q s M HI682 HB hHeld ⊢
   refine pz_ 1 31 8 2 ?_;refine pz_ 3 33 8 10 ?_;refine tz6_ 0 30 8 11 ?_;refine tz6_ 2 32 8 15 ?_;refine tz6_ 4 34 8 31 ?_;refine pz_ 5 35 8 63 ?_
   refine o1_ 6 none 8 127 (fun K hK=> ?_)
   have k5:b6.cell? ⟨x,0,none⟩=some (.int .i64 0):=bl_ m 0
   have h8:=blk_frozen m.out 0
   have w9:=b8.out;have x0:=a5.out;have x1:=n10_.out;have x2:=b7.out;have x3:=f5.out;have x4:=B.out
   have k6:b6.cell? ⟨x,1,none⟩=some (.slice none 0 0):=bl_ m 1
   have h9:=blk_frozen m.out 1
   have x5:=b8.out;have x6:=a5.out;have x7:=n10_.out;have x8:=b7.out;have x9:=f5.out;have y0:=B.out
   refine skip_ (w1:= ?_) (by rfl) rfl ?_ ?_
   rotate_left
   ·go_simp
    rfl
   refine hK.out _ _ ⟨((cell_far (p:=⟨x,_,none⟩) a5.out _).trans (((cell_far (p:=⟨x,_,none⟩) a5.out _).trans (hHeld.1)))),((cell_far (p:=⟨x,_,none⟩) a5.out _).trans (((cell_far (p:=⟨x,_,none⟩) a5.out _).trans (hHeld.2.1)))),((cell_far (p:=⟨x,_,none⟩) n10_.out _).trans (((cell_far (p:=⟨x,_,none⟩) n10_.out _).trans (hHeld.2.2.1)))),((cell_far (p:=⟨x,_,none⟩) n10_.out _).trans (((cell_far (p:=⟨x,_,none⟩) n10_.out _).trans (hHeld.2.2.2.1)))),((cell_far (p:=⟨x,_,none⟩) n10_.out _).trans (((cell_far (p:=⟨x,_,none⟩) n10_.out _).trans (hHeld.2.2.2.2.1)))),((cell_far (p:=⟨x,_,none⟩) n10_.out _).trans (((cell_far (p:=⟨x,_,none⟩) n10_.out _).trans (hHeld.2.2.2.2.2))))⟩ (fun hHeld=> ?_)
   clear hK K
   refine o1_ 7 none 8 255 (fun K hK=> ?_)
   have k7:b6.cell? ⟨y,0,none⟩=some (.int .i64 0):=bl_ q 0
   have i0:=blk_frozen q.out 0
   have y1:=b7.out;have y2:=a6.out;have y3:=n12_.out;have y4:=b8.out;have y5:=f6.out;have y6:=n11_.out
   have k8:b6.cell? ⟨y,1,none⟩=some (.int .i64 0):=bl_ q 1
   have i1:=blk_frozen q.out 1
   have y7:=b7.out;have y8:=a6.out;have y9:=n12_.out;have z0:=b8.out;have z1:=f6.out;have z2:=n11_.out
   refine skip_ (w1:= ?_) (by rfl) rfl ?_ ?_
   rotate_left
   ·go_simp
    rfl
   refine hK.out _ _ ⟨((cell_far (p:=⟨y,_,none⟩) a6.out _).trans (((cell_far (p:=⟨y,_,none⟩) a6.out _).trans (hHeld.1)))),((cell_far (p:=⟨y,_,none⟩) a6.out _).trans (((cell_far (p:=⟨y,_,none⟩) a6.out _).trans (hHeld.2.1)))),((cell_far (p:=⟨y,_,none⟩) n12_.out _).trans (((cell_far (p:=⟨y,_,none⟩) n12_.out _).trans (hHeld.2.2.1)))),((cell_far (p:=⟨y,_,none⟩) n12_.out _).trans (((cell_far (p:=⟨y,_,none⟩) n12_.out _).trans (hHeld.2.2.2.1)))),((cell_far (p:=⟨y,_,none⟩) n12_.out _).trans (((cell_far (p:=⟨y,_,none⟩) n12_.out _).trans (hHeld.2.2.2.2.1)))),((cell_far (p:=⟨y,_,none⟩) n12_.out _).trans (((cell_far (p:=⟨y,_,none⟩) n12_.out _).trans (hHeld.2.2.2.2.2))))⟩ (fun hHeld=> ?_)
   clear hK K
   refine done_ (done_of HT_.out (by kernel_rfl)) ?_
   try go_wp2
   refine bodyPost_ret (results_cc rfl _ _ x y 29 43 #[.int .i64 O,.slice (some a) d.length Y] #[.int .i64 ((rd_T72 d l).f0),.int .i64 ((rd_T72 d l).f1)] (0,0) (0,0) _ _ rfl (qp_ m) Try.underlying29 rfl (by kernel_rfl) rfl (qp_ q) Try.underlying43 rfl (by kernel_rfl)) rfl ?_
   exact⟨_,qr_,by(with_reducible repeat(first|apply Kd.R_alloc|apply Kd.R_drewN|apply Kd.R_drew));exact Kd.R_mono (Kd.R_far (p:=⟨y,1,none⟩) (Kd.R_far (p:=⟨y,0,none⟩) (Kd.R_far (p:=⟨x,1,none⟩) (Kd.R_far (p:=⟨x,0,none⟩) (Kd.R_types (Kd.R_types c.out m.out (by decide)) q.out (by decide)) (fun _ hk=>hk.1.2) (.int .i64 O)) (fun _ hk=>hk.1.2) (.slice (some a) d.length Y)) (fun _ hk=>hk.2) (.int .i64 ((rd_T72 d l).f0))) (fun _ hk=>hk.2) (.int .i64 ((rd_T72 d l).f1))) (fun _ hk=>trivial),qB_⟩
end Go.Proofs.Ytbkklafkoegdpaa.QFnTakes

import Derived.Test.YtbkklafkoegdpaaQFnTakesx15
namespace Go.Proofs.Ytbkklafkoegdpaa.QFnTakes
open Go.RowKit Go.Proofs.YtbkklafkoegdpaaW.PrintWords Go.Proofs.YtbkklafkoegdpaaW.PrintLast Go.Proofs.YtbkklafkoegdpaaW.PrintMore
set_option maxHeartbeats 8000000
set_option maxRecDepth 100000
set_option linter.unusedVariables false
set_option linter.unusedSimpArgs false
mutual
def spec_l08Search.j0:Nat→Int→List (S72)→List Int→Int→List (S72)→Option ((List (S72)) × Int)
  |0,_,_,_,_,_=>none
  |k + 1,x2,x8,x11,x380000,x380001=>if (wrap64 (x2 + 1))>4 then (spec_l08Search.j1 k x2 x8 x11 4 x380000 x380001) else (spec_l08Search.j1 k x2 x8 x11 (wrap64 (x2 + 1)) x380000 x380001)
def spec_l08Search.j1:Nat→Int→List (S72)→List Int→Int→Int→List (S72)→Option ((List (S72)) × Int)
  |0,_,_,_,_,_,_=>none
  |k + 1,x2,x8,x11,x13,x380000,x380001=>spec_l08Search.l0 k x2 x8 x11 x13 0 x380000 x380001
def spec_l08Search.l0:Nat→Int→List (S72)→List Int→Int→Int→Int→List (S72)→Option ((List (S72)) × Int)
  |0,_,_,_,_,_,_,_=>none
  |k + 1,x2,x8,x11,x13,x14,x380000,x380001=>if x14<(x8.length:Int) then (if 0≤x14 then (if (rd_T72 x8 x14).f3=true then (if ((rd_T72 x8 x14).f2)=x2 then ((spec_l05In.f k x11 ((rd_T72 x8 x14).f0)).bind fun t406=>(if t406=true then (spec_l08Search.l0 k x2 (x8.set (x14:Int).toNat (⟨(rd_T72 x8 x14).f0,(rd_T72 x8 x14).f1,x13,(rd_T72 x8 x14).f3⟩:S72)) x11 x13 (wrap64 (x14 + 1)) x380000 x380001) else (spec_l08Search.l0 k x2 x8 x11 x13 (wrap64 (x14 + 1)) x380000 x380001))) else (spec_l08Search.l0 k x2 x8 x11 x13 (wrap64 (x14 + 1)) x380000 x380001)) else (spec_l08Search.l0 k x2 x8 x11 x13 (wrap64 (x14 + 1)) x380000 x380001)) else (none)) else (spec_l08Search.l1 k x2 x8 x11 x13 0 x380000 x380001)
def spec_l08Search.l1:Nat→Int→List (S72)→List Int→Int→Int→Int→List (S72)→Option ((List (S72)) × Int)
  |0,_,_,_,_,_,_,_=>none
  |k + 1,x2,x8,x11,x13,x15,x380000,x380001=>if x15<(x8.length:Int) then (if 0≤x15 then ((spec_l05In.f k x11 ((rd_T72 x8 x15).f0)).bind fun t409=>((spec_l05In.f k x11 ((rd_T72 x8 x15).f1)).bind fun t411=>(if x15<(x380001.length:Int) then (if (rd_T72 x380001 x15).f3=true then (spec_l08Search.j4 k x2 x8 x11 x13 x15 t409 t411 true x380000 x380001) else (if ((rd_T72 x380001 x15).f2)=x2 then (if t409=true then (spec_l08Search.j4 k x2 x8 x11 x13 x15 t409 t411 false x380000 x380001) else (spec_l08Search.j4 k x2 x8 x11 x13 x15 t409 t411 (!t411) x380000 x380001)) else (spec_l08Search.j4 k x2 x8 x11 x13 x15 t409 t411 true x380000 x380001))) else (none)))) else (none)) else (some (x8,(-1)))
def spec_l08Search.j4:Nat→Int→List (S72)→List Int→Int→Int→Bool→Bool→Bool→Int→List (S72)→Option ((List (S72)) × Int)
  |0,_,_,_,_,_,_,_,_,_,_=>none
  |k + 1,x2,x8,x11,x13,x15,x16,x17,x133,x380000,x380001=>if x133=true then (spec_l08Search.l1 k x2 x8 x11 x13 (wrap64 (x15 + 1)) x380000 x380001) else (if x16=true then (if x17=true then (if 0≤x15 then (if x15<(x8.length:Int) then (spec_l08Search.l1 k x2 (x8.set (x15:Int).toNat (⟨(rd_T72 x8 x15).f0,(rd_T72 x8 x15).f1,x13,(rd_T72 x8 x15).f3⟩:S72)) x11 x13 (wrap64 (x15 + 1)) x380000 x380001) else (none)) else (none)) else (if 0≤x15 then (if x15<(x8.length:Int) then (some ((x8.set (x15:Int).toNat (⟨(rd_T72 x8 x15).f0,(rd_T72 x8 x15).f1,(rd_T72 x8 x15).f2,true⟩:S72)),x15)) else (none)) else (none))) else (if 0≤x15 then (if x15<(x8.length:Int) then (some ((x8.set (x15:Int).toNat (⟨(rd_T72 x8 x15).f0,(rd_T72 x8 x15).f1,(rd_T72 x8 x15).f2,true⟩:S72)),x15)) else (none)) else (none)))
end
def spec_l08Search.f (k:Nat) (a0_0:Int) (l0_1:List (S72)) (a1_0:Int) (a1_1:Int) (a2:Int):Option ((List (S72)) × Int):=(some (([]:List (S72)):List (S72))).bind fun y381=>(if y381.length + l0_1.length<4398046511104 then ((some (y381++l0_1:List (S72))).bind fun y384=>((spec_ForestAt.f k a0_0 l0_1 a2).bind fun bt387=>((spec_TreeOf.f k bt387.1 bt387.2.1 a1_0).bind fun t393=>(if 0≤t393 then (if t393<(bt387.2.1.length:Int) then ((spec_VertsOf.f k (rd_L4 bt387.2.1 t393)).bind fun t395=>((spec_TreeOf.f k bt387.1 bt387.2.1 a1_1).bind fun t398=>(if 0≤t398 then (if t398<(bt387.2.1.length:Int) then ((spec_VertsOf.f k (rd_L4 bt387.2.1 t398)).bind fun t400=>(if (t400.length:Int)<(t395.length:Int) then (spec_l08Search.j0 k a2 y384 t400 a0_0 l0_1) else (spec_l08Search.j0 k a2 y384 t395 a0_0 l0_1))) else (none)) else (none)))) else (none)) else (none))))) else (none))
def spec_l08Search.T3:Bool × List (List Nat × List Nat):=(true,[([],[]),([0],[0]),([],[]),([],[]),([3],[3]),([2,4],[2,4]),([1,5],[1,5]),([6],[6]),([7,5],[7]),([8,8,0,1,2,3,4,5,6,7,8],[8])])
def spec_l08Search.B3:List Nat:=[0,1,0,0,8,28,63,127,255,511]
theorem spec_l08Search.tab3:rtab .any (opsOf Try.f93 3)=spec_l08Search.T3:=by kernel_rfl
theorem spec_l08Search.bits3:waitsOk spec_l08Search.T3.2 spec_l08Search.B3=true:=by kernel_rfl
def spec_l08Search.T4:Bool × List (List Nat × List Nat):=(true,[([],[]),([0],[0]),([],[]),([],[]),([3],[3]),([2,4],[2,4]),([1,5],[1,5]),([6],[6]),([7,5],[7]),([8,8,0,1,2,3,4,5,6,7,8],[8])])
def spec_l08Search.B4:List Nat:=[0,1,0,0,8,28,63,127,255,511]
theorem spec_l08Search.tab4:rtab .any (opsOf Try.f93 4)=spec_l08Search.T4:=by kernel_rfl
theorem spec_l08Search.bits4:waitsOk spec_l08Search.T4.2 spec_l08Search.B4=true:=by kernel_rfl
theorem spec_l08Search.calls (k:Nat) (D:Int) (a1:Option Addr) (a2:Nat) (m:List (S72)) (G:Int) (I:Int) (b8:Int) (o3:List (S72)) (o4:Int) (w:World) (hr0_1:Kd.C k72 w a1 m.length m) (hc0_1:m.length≤a2) (h:spec_l08Search.f k D m G I b8=some (o3,o4)):
  Calls Try.prog 93 #[.agg #[.int .i64 D,.slice a1 m.length a2],.agg #[.int .i64 G,.int .i64 I],.int .i64 b8] w fun e w' =>∃ w7:Value,e= .returned (.tuple #[w7,.int .i64 o4])∧Kd.R k72 72 w' w.heap.size (fun _=>True) w7 o3∧Below w.heap.size w w' :=by
 have hu29:=Try.underlying29;have hu43:=Try.underlying43;have hu39:=Try.underlying39
 have Y:=am_ hr0_1
 have r3:=am_ hc0_1
 clear hr0_1 hc0_1
 have HB:=am_ (Below.refl w.heap.size w)
 have H:((some (([]:List (S72)):List (S72))).bind fun w8=>(if w8.length + m.length<4398046511104 then ((some (w8++m:List (S72))).bind fun m9=>((spec_ForestAt.f k D m b8).bind fun o5=>((spec_TreeOf.f k o5.1 o5.2.1 G).bind fun e0=>(if 0≤e0 then (if e0<(o5.2.1.length:Int) then ((spec_VertsOf.f k (rd_L4 o5.2.1 e0)).bind fun r4=>((spec_TreeOf.f k o5.1 o5.2.1 I).bind fun e1=>(if 0≤e1 then (if e1<(o5.2.1.length:Int) then ((spec_VertsOf.f k (rd_L4 o5.2.1 e1)).bind fun r5=>(if (r5.length:Int)<(r4.length:Int) then (spec_l08Search.j0 k b8 m9 r5 D m) else (spec_l08Search.j0 k b8 m9 r4 D m))) else (none)) else (none)))) else (none)) else (none))))) else (none)))=some (o3,o4):=h
 clear h
 generalize i7:(([]:List (S72)))=w8 at H;replace H:=bh_ H;have i8:=am_ i7.symm;clear i7
 refine jg_ H ?_;clear H;intro r6 H
 have w9:=am_ r6
 clear r6
 generalize i9:(w8++m)=m9 at H;replace H:=bh_ H;have r7:=am_ i9.symm;clear i9
 obtain⟨⟨b7,E,M0⟩,M1,H⟩:=bs_ H;dsimp only at H
 obtain⟨e0,M2,H⟩:=bs_ H
 refine ig_ H ?_;clear H;intro e3 H
 refine ig_ H ?_;clear H;intro e4 H
 obtain⟨r4,M3,H⟩:=bs_ H
 obtain⟨e1,E6,H⟩:=bs_ H
 refine ig_ H ?_;clear H;intro b9 H
 refine ig_ H ?_;clear H;intro c0 H
 obtain⟨r5,E7,H⟩:=bs_ H
 have E8:=am_ H
 clear H
 go_enter Try.func93,Try.ntmps93
 try go_wp2_with (first|((with_reducible refine gd_ 3 ?_);refine by_ 3 (cs:= #[.int .i64 D,.slice a1 m.length a2]) (t:=29) ?_;intro n0 hg M4 A hb;have T7:=gw_ hg;replace HB:=hs_ hb;clear hb hg)|((with_reducible refine gd_ 4 ?_);refine by_ 4 (cs:= #[.int .i64 G,.int .i64 I]) (t:=43) ?_;intro h3 hg M5 x hb;have U0:=gw_ hg;obtain⟨x0,U1⟩:=qn_ A hg;replace A:=qbl_ A hb;replace HB:=hs_ hb;clear hb hg)|((with_reducible refine gd_ 18 ?_);refine Kd.R_lit k72 _ 72 ?hg (N:=18) ?hd (xs:=([]:List (S72))) (inner:=[]) (ok:=fun _=>True) (okp:=fun _=>True) ?hr ?hp (fun _ hk=>hk) trivial (Below.refl _ _) (Nat.le_refl _) (by simp) ?_;(case hd=>rfl);(case hg=>rfl);(case hr=>first|(go_simp;done)|(go_simp;rfl));(case hp=>exact(Reps.none _ _));intro M6 M7 ho18 hb hg_ hnew_;clear hg_ hnew_;(first|rw[←i8.out]at ho18|(simp only[Int.reduceToNat]at ho18;rw[←i8.out]at ho18));have A5:=am_ (Kd.R_lower ho18 (below_size qB_));replace A:=qbl_ A hb;replace x:=qbl_ x hb;replace HB:=hs_ hb;clear hb ho18;obtain⟨U2,U3⟩:=nn_ x0;obtain⟨x1,x2,x3,x4⟩:=bc2_ A)|((with_reducible refine gate_builtin (b:= .append) (xs:= #[.tmp 18,.tmp 20]) rfl ?_);at_builtin;refine Kd.R_append_rows k72 (w0:=w) w.heap.size rfl (.tmp 18) (.tmp 20) 27 72 (.agg #[(.int .i64 0),(.int .i64 0),(.int .i64 0),(.bool false)]) 32 rfl Try.underlying27 info72 rfl (by decide) (by omega) M6 w8 m _ _ _ (fun _=>True) (fun _=>False) rfl rfl ?aO ?aR (fun _ _ h=>h) (fun _ h=>h.elim) ?aF ?aB ?aS ?aL ?_;(case aR=>repeat(first|exact(Kd.C_below Y.out HB.out)|(with_reducible refine Kd.C_alloc ?_ _)|(with_reducible refine Kd.C_drewN ?_ _)|(with_reducible refine Kd.C_drew ?_)));(case aB=>exact qB_);(case aF=>exact(fun _ _=>trivial));(case aO=>exact(qR_ A5));(case aS=>exact(below_size qB_));(case aL=>have:=w9.out;omega);intro A6 M8 ho hb hg hat;rw[←r7.out]at ho;have c1:=am_ (ho);replace A:=am_ (blk_grown (qk_ A) hg (Kd.R_ne A5.out A.out (by decide)));replace x:=am_ (blk_grown (qk_ x) hg (Kd.R_ne A5.out x.out (by decide)));replace HB:=am_ (hb);clear A5 ho hb hg hat;obtain⟨x5,x6,x7,x8⟩:=bc2_ A)|((with_reducible refine gc_ 58 ?_);refine gl_ (some 25) Try.func58 #[.agg #[.int .i64 D,.slice a1 m.length a2],.int .i64 b8] ?_;(with_reducible refine(spec_ForestAt.calls k D _ _ m b8 b7 E M0 _ ?_ ?_ M1.out).mono ?_);exact qC_ Y HB;exact r3.out;rintro e M9 ⟨U4,rfl,ho0,hb⟩;refine⟨_,rfl,?_⟩;have a4:=am_ (Kd.S_lower ho0 (below_size qB_));replace c1:=kb_ c1 hb;replace A:=qbl_ A hb;replace x:=qbl_ x hb;replace HB:=hs_ hb;clear hb ho0)|((with_reducible refine gd_ 9 ?_);refine by_ 9 (cs:= #[.int .i64 0,.slice none 0 0]) (t:=39) ?_;intro a5 hg f8 B hb;have U5:=gw_ hg;obtain⟨A7,N0⟩:=qn_ A hg;obtain⟨U6,N1⟩:=qn_ x hg;replace c1:=kb_ c1 hb;replace a4:=am_ (Kd.S_below (qS_ a4) hb);replace A:=qbl_ A hb;replace x:=qbl_ x hb;replace HB:=hs_ hb;clear hb hg;obtain⟨u0,u1⟩:=nn_ N0;obtain⟨u2,u3⟩:=nn_ N1;obtain⟨x9,y0,y1,y2⟩:=bc2_ B;obtain⟨j5,b3,N2⟩:=Kd.S_slice a4.out;subst N2))
 have h4:Aside0 (Kd.R k72 72 ((f8.setCell ⟨a5,0,none⟩ (.int .i64 b7)).setCell ⟨a5,1,none⟩ (.slice j5 E.length b3)) w.heap.size (fun _=>True) A6 m9):=⟨by(with_reducible repeat(first|apply Kd.R_alloc|apply Kd.R_drewN|apply Kd.R_drew));exact Kd.R_mono (Kd.R_far (p:=⟨a5,1,none⟩) (Kd.R_far (p:=⟨a5,0,none⟩) (Kd.R_types c1.out B.out (by decide)) (fun _ hk=>hk.2) (.int .i64 b7)) (fun _ hk=>hk.2) (.slice j5 E.length b3)) (fun _ hk=>trivial)⟩
 have h5:Aside0 (Kd.S (Kd.slice 3 (Kd.int .i64)) 51 ((f8.setCell ⟨a5,0,none⟩ (.int .i64 b7)).setCell ⟨a5,1,none⟩ (.slice j5 E.length b3)) w.heap.size (fun _=>True) (.slice j5 E.length b3) E):=⟨by(with_reducible repeat(first|apply Kd.S_alloc|apply Kd.S_drewN|apply Kd.S_drew));exact Kd.S_mono (Kd.S_far (p:=⟨a5,1,none⟩) (Kd.S_far (p:=⟨a5,0,none⟩) (Kd.S_types a4.out B.out (by decide)) (fun _ hk=>hk.2) (.int .i64 b7)) (fun _ hk=>hk.2) (.slice j5 E.length b3)) (fun _ hk=>trivial)⟩
 have h6:Aside0 (((f8.setCell ⟨a5,0,none⟩ (.int .i64 b7)).setCell ⟨a5,1,none⟩ (.slice j5 E.length b3)).heap[n0]? =some (.cells #[.int .i64 D,.slice a1 m.length a2] 29 (0,0))):=⟨qf_ A⟩
 have h7:Aside0 (((f8.setCell ⟨a5,0,none⟩ (.int .i64 b7)).setCell ⟨a5,1,none⟩ (.slice j5 E.length b3)).heap[h3]? =some (.cells #[.int .i64 G,.int .i64 I] 43 (0,0))):=⟨qf_ x⟩
 have h8:Aside0 (((f8.setCell ⟨a5,0,none⟩ (.int .i64 b7)).setCell ⟨a5,1,none⟩ (.slice j5 E.length b3)).heap[a5]? =some (.cells #[.int .i64 b7,.slice j5 E.length b3] 39 (0,0))):=⟨qp_ B⟩
 have h9:Aside0 (Below w.heap.size w ((f8.setCell ⟨a5,0,none⟩ (.int .i64 b7)).setCell ⟨a5,1,none⟩ (.slice j5 E.length b3))):=⟨qB_⟩
 clear c1 a4 A x B HB
 generalize ((f8.setCell ⟨a5,0,none⟩ (.int .i64 b7)).setCell ⟨a5,1,none⟩ (.slice j5 E.length b3))=E9 at h4 h5 h6 h7 h8 h9 ⊢
 have c1:=h4;have a4:=h5;have A:=h6;have x:=h7;have B:=h8;have HB:=h9;clear h4 h5 h6 h7 h8 h9
 replace c1:=rd_ c1;replace a4:=am_ (Kd.S_drew a4.out);replace A:=bd_ A;replace x:=bd_ x;replace B:=bd_ B;replace HB:=hd_ HB
 have a7:=dp_ e0
 have a8:=dl_ e0 E.length
 obtain⟨z,A394_0,c394_0,y3,o6,e5,hi394_0⟩:=at_L4 (Kd.S_reads' a4.out).2.2 e0 a7 a8
 cases y3
 obtain⟨F0,hce394,hMe394,h0⟩:=Kd.S_get a4.out [] e0 a7 (by first|exact a8|exact of_decide_eq_true qa_|(have e_:=(Kd.S_reads' a4.out).1;omega))
 obtain⟨ve394_0,rfl,ge394_0⟩:=hMe394
 have hv394_0:=h0 0 _ rfl
 rw[Nat.add_zero,show((Kd.slice 3 (Kd.int .i64))).sz=1 from rfl,Nat.mul_one]at hv394_0
 replace hv394_0:=Option.some.inj (hv394_0.symm.trans o6)
 rw[hv394_0]at ge394_0
 have u:=am_ (show Kd.R (Kd.int .i64) 3 _ _ _ _ (rd_L4 E e0) from ge394_0)
 clear hv394_0 ge394_0 h0 hce394
 have i:=am_ hi394_0
 have j6:=am_ e5
 clear hi394_0 e5;replace a7:=eq_true a7;replace a8:=eq_true a8
 refine start_ (n:=10) (S:=fun w' =>w'.cell? ⟨a5,0,none⟩=some (.int .i64 b7)∧w'.cell? ⟨a5,1,none⟩=some (.slice (some z) E.length b3)∧w'.cell? ⟨h3,0,none⟩=some (.int .i64 G)∧w'.cell? ⟨h3,1,none⟩=some (.int .i64 I)∧w'.cell? (z.add (e0).toNat)=some (.slice A394_0 (rd_L4 E e0).length c394_0)) (ds:=[]) (bm 10 0) (by kernel_rfl) rfl (by kernel_rfl) ⟨bl_ B 0,bl_ B 1,bl_ x 0,bl_ x 1,o6⟩ (fun hHeld=> ?_);refine with_tabW spec_l08Search.tab3 spec_l08Search.bits3 (fun HT_ HW_=> ?_)
 generalize E9.drew=N3 at c1 a4 A x B HB u i o6 hHeld ⊢
 refine pz_ 0 28 10 1 ?_;refine pz_ 3 31 10 9 ?_;refine tz5_ 1 29 10 11 ?_;refine tz5_ 2 30 10 15 ?_;refine tz5_ 4 32 10 31 ?_
 refine o1_ 5 (some 33) 10 63 (fun K hK=> ?_)
 refine gs_ Try.func60 #[.agg #[.int .i64 b7,.slice (some z) E.length b3],.int .i64 G] ?_
 with_reducible refine(spec_TreeOf.calls k b7 _ _ E G e0 _ ?side1 ?side2 M2.out).mono ?_
 (case side1=>exact qD_ (Kd.S_reads' a4.out).2.2)
 (case side2=>exact(Kd.S_reads' a4.out).2.1)
 rintro e N4 ⟨rfl,hb⟩
 replace u:=am_ (Kd.R_below u.out hb)
 replace i:=am_ (Kd.C_below i.out hb)
 have HS4_:=(hb.cell (World.block_lt_of_cell? _ _ (hHeld.2.2.2.2))).trans (hHeld.2.2.2.2)
 refine⟨_,rfl,?_⟩
 replace c1:=kb_ c1 hb;replace a4:=am_ (Kd.S_below (qS_ a4) hb);replace A:=qbl_ A hb;replace x:=qbl_ x hb;replace B:=qbl_ B hb;replace HB:=hs_ hb;clear hb
 refine hK.out _ _ ⟨bl_ B 0,bl_ B 1,bl_ x 0,bl_ x 1,HS4_⟩ (fun hHeld=> ?_)
 clear hK K
 refine nm_ 33 ?_
 refine pz_ 6 34 10 127 ?_;refine tz5_ 7 35 10 255 ?_
 refine o1_ 8 (some 36) 10 511 (fun K hK=> ?_)
 refine gs_ Try.func59 #[.slice A394_0 (rd_L4 E e0).length c394_0] ?_
 with_reducible refine(spec_VertsOf.calls k _ _ (rd_L4 E e0) r4 _ ?side1 ?side2 M3.out).mono ?_
 (case side1=>repeat(first|exact(by repeat(first|(with_reducible exact i.out)|(with_reducible refine Kd.C_alloc ?_ _)|(with_reducible refine Kd.C_drewN ?_ _)|(with_reducible refine Kd.C_drew ?_)|exact i.out))|(with_reducible refine Kd.C_alloc ?_ _)|(with_reducible refine Kd.C_drewN ?_ _)|(with_reducible refine Kd.C_drew ?_)))
 (case side2=>exact j6.out)
 rintro e F1 ⟨U7,rfl,ho0,hb⟩
 have HS4_:=(hb.cell (World.block_lt_of_cell? _ _ (hHeld.2.2.2.2))).trans (hHeld.2.2.2.2)
 refine⟨_,rfl,?_⟩
 have m7:=am_ (Kd.R_lower (Kd.R_new' ho0 (Kd.R_lt (qR_ u))) (below_size qB_));replace c1:=kb_ c1 hb;replace a4:=am_ (Kd.S_elder' (qS_ a4) (Kd.R_base ho0) hb);replace u:=ke_ u ho0 hb;replace A:=qbl_ A hb;replace x:=qbl_ x hb;replace B:=qbl_ B hb;replace i:=am_ (Kd.C_below (by repeat(first|(with_reducible exact i.out)|(with_reducible refine Kd.C_alloc ?_ _)|(with_reducible refine Kd.C_drewN ?_ _)|(with_reducible refine Kd.C_drew ?_)|exact i.out)) hb);replace HB:=hs_ hb;clear hb ho0
 refine hK.out _ _ ⟨bl_ B 0,bl_ B 1,bl_ x 0,bl_ x 1,HS4_⟩ (fun hHeld=> ?_)
 clear hK K
 refine nm_ 36 ?_
 refine pz_ 9 11 10 1023 ?_
 refine done_ (done_of HT_.out (by kernel_rfl)) ?_
 try go_wp2
 replace c1:=rd_ c1;replace a4:=am_ (Kd.S_drew a4.out);replace u:=rd_ u;replace m7:=rd_ m7;replace A:=bd_ A;replace x:=bd_ x;replace B:=bd_ B;replace i:=am_ (Kd.C_drew i.out);replace HB:=hd_ HB
 have a9:=dp_ e1
 have b0:=dl_ e1 E.length
 obtain⟨r8,A399_0,c399_0,y4,o7,e6,hi399_0⟩:=at_L4 (Kd.S_reads' a4.out).2.2 e1 a9 b0
 obtain rfl:z=r8:=(by injection y4)
 obtain⟨F2,hce399,hMe399,h1⟩:=Kd.S_get a4.out [] e1 a9 (by first|exact b0|exact of_decide_eq_true qa_|(have e_:=(Kd.S_reads' a4.out).1;omega))
 obtain⟨ve399_0,rfl,ge399_0⟩:=hMe399
 have hv399_0:=h1 0 _ rfl
 rw[Nat.add_zero,show((Kd.slice 3 (Kd.int .i64))).sz=1 from rfl,Nat.mul_one]at hv399_0
 replace hv399_0:=Option.some.inj (hv399_0.symm.trans o7)
 rw[hv399_0]at ge399_0
 have X:=am_ (show Kd.R (Kd.int .i64) 3 _ _ _ _ (rd_L4 E e1) from ge399_0)
 clear hv399_0 ge399_0 h1 hce399
 have q:=am_ hi399_0
 have j7:=am_ e6
 clear hi399_0 e6;replace a9:=eq_true a9;replace b0:=eq_true b0
 refine start_ (n:=10) (S:=fun w' =>w'.cell? ⟨a5,0,none⟩=some (.int .i64 b7)∧w'.cell? ⟨a5,1,none⟩=some (.slice (some z) E.length b3)∧w'.cell? ⟨h3,0,none⟩=some (.int .i64 G)∧w'.cell? ⟨h3,1,none⟩=some (.int .i64 I)∧w'.cell? (z.add (e1).toNat)=some (.slice A399_0 (rd_L4 E e1).length c399_0)) (ds:=[]) (bm 10 0) (by kernel_rfl) rfl (by kernel_rfl) ⟨bl_ B 0,bl_ B 1,bl_ x 0,bl_ x 1,o7⟩ (fun hHeld=> ?_);refine with_tabW spec_l08Search.tab4 spec_l08Search.bits4 (fun HT_ HW_=> ?_)
 generalize F1.drew=N5 at c1 a4 u m7 A x B i HB X q o7 hHeld ⊢
 refine pz_ 0 37 10 1 ?_;refine pz_ 3 40 10 9 ?_;refine tz5_ 1 38 10 11 ?_;refine tz5_ 2 39 10 15 ?_;refine tz5_ 4 41 10 31 ?_
 refine o1_ 5 (some 42) 10 63 (fun K hK=> ?_)
 refine gs_ Try.func60 #[.agg #[.int .i64 b7,.slice (some z) E.length b3],.int .i64 I] ?_
 with_reducible refine(spec_TreeOf.calls k b7 _ _ E I e1 _ ?side1 ?side2 E6.out).mono ?_
 (case side1=>exact qD_ (Kd.S_reads' a4.out).2.2)
 (case side2=>exact(Kd.S_reads' a4.out).2.1)
 rintro e N6 ⟨rfl,hb⟩
 replace X:=am_ (Kd.R_below X.out hb)
 replace q:=am_ (Kd.C_below q.out hb)
 have HS4_:=(hb.cell (World.block_lt_of_cell? _ _ (hHeld.2.2.2.2))).trans (hHeld.2.2.2.2)
 refine⟨_,rfl,?_⟩
 replace c1:=kb_ c1 hb;replace a4:=am_ (Kd.S_below (qS_ a4) hb);replace u:=kb_ u hb;replace m7:=kb_ m7 hb;replace A:=qbl_ A hb;replace x:=qbl_ x hb;replace B:=qbl_ B hb;replace i:=am_ (Kd.C_below (by repeat(first|(with_reducible exact i.out)|(with_reducible refine Kd.C_alloc ?_ _)|(with_reducible refine Kd.C_drewN ?_ _)|(with_reducible refine Kd.C_drew ?_)|exact i.out)) hb);replace HB:=hs_ hb;clear hb
 refine hK.out _ _ ⟨bl_ B 0,bl_ B 1,bl_ x 0,bl_ x 1,HS4_⟩ (fun hHeld=> ?_)
 clear hK K
 refine nm_ 42 ?_
 refine pz_ 6 43 10 127 ?_;refine tz5_ 7 44 10 255 ?_
 refine o1_ 8 (some 45) 10 511 (fun K hK=> ?_)
 refine gs_ Try.func59 #[.slice A399_0 (rd_L4 E e1).length c399_0] ?_
 with_reducible refine(spec_VertsOf.calls k _ _ (rd_L4 E e1) r5 _ ?side1 ?side2 E7.out).mono ?_
 (case side1=>repeat(first|exact(by repeat(first|(with_reducible exact q.out)|(with_reducible refine Kd.C_alloc ?_ _)|(with_reducible refine Kd.C_drewN ?_ _)|(with_reducible refine Kd.C_drew ?_)|exact q.out))|(with_reducible refine Kd.C_alloc ?_ _)|(with_reducible refine Kd.C_drewN ?_ _)|(with_reducible refine Kd.C_drew ?_)))
 (case side2=>exact j7.out)
 rintro e N7 ⟨U8,rfl,ho0,hb⟩
 have HS4_:=(hb.cell (World.block_lt_of_cell? _ _ (hHeld.2.2.2.2))).trans (hHeld.2.2.2.2)
 refine⟨_,rfl,?_⟩
 have H5:=am_ (Kd.R_lower (Kd.R_new' (Kd.R_new' (Kd.R_new' ho0 (Kd.R_lt (qR_ u))) (Kd.R_lt (qR_ m7))) (Kd.R_lt (qR_ X))) (below_size qB_));replace c1:=kb_ c1 hb;replace a4:=am_ (Kd.S_elder' (qS_ a4) (Kd.R_base ho0) hb);replace u:=ke_ u ho0 hb;replace m7:=ke_ m7 ho0 hb;replace X:=ke_ X ho0 hb;replace A:=qbl_ A hb;replace x:=qbl_ x hb;replace B:=qbl_ B hb;replace i:=am_ (Kd.C_below (by repeat(first|(with_reducible exact i.out)|(with_reducible refine Kd.C_alloc ?_ _)|(with_reducible refine Kd.C_drewN ?_ _)|(with_reducible refine Kd.C_drew ?_)|exact i.out)) hb);replace q:=am_ (Kd.C_below (by repeat(first|(with_reducible exact q.out)|(with_reducible refine Kd.C_alloc ?_ _)|(with_reducible refine Kd.C_drewN ?_ _)|(with_reducible refine Kd.C_drew ?_)|exact q.out)) hb);replace HB:=hs_ hb;clear hb ho0
 refine hK.out _ _ ⟨bl_ B 0,bl_ B 1,bl_ x 0,bl_ x 1,HS4_⟩ (fun hHeld=> ?_)
 clear hK K
 refine nm_ 45 ?_
 refine pz_ 9 12 10 1023 ?_
 refine done_ (done_of HT_.out (by kernel_rfl)) ?_
 obtain⟨U9,V0,N8⟩:=Kd.R_slice H5.out
 subst N8
 obtain⟨V1,V2,N9⟩:=Kd.R_slice m7.out
 subst N9
 go_upto_if 50 with (fail)
 go_cut [11] (fun v11 wc=>∃ (kq:Nat) (o:List Int),Aside0 (spec_l08Search.j0 kq b8 m9 o D m=some (o3,o4))∧Aside0 (kq≤k)∧Aside0 (Kd.R k72 72 wc w.heap.size (fun _=>True) A6 m9)∧Aside0 (Kd.R (Kd.int .i64) 3 wc w.heap.size (fun _=>True) v11 o)∧Aside0 (Kd.S (Kd.slice 3 (Kd.int .i64)) 51 wc w.heap.size (fun k_=>some k_≠(v11:Value).ownBlock) (.slice (some z) E.length b3) E)∧Aside0 (wc.heap[n0]? =some (.cells #[.int .i64 D,(.slice a1 m.length a2)] 29 (0,0)))∧Aside0 (wc.heap[h3]? =some (.cells #[.int .i64 G,.int .i64 I] 43 (0,0)))∧Aside0 (wc.heap[a5]? =some (.cells #[.int .i64 b7,(.slice (some z) E.length b3)] 39 (0,0)))∧Aside0 (Kd.C (Kd.int .i64) wc A394_0 (rd_L4 E e0).length (rd_L4 E e0))∧Aside0 (Kd.C (Kd.int .i64) wc A399_0 (rd_L4 E e1).length (rd_L4 E e1))∧Aside0 (Below w.heap.size w wc))
 case first=>
  have H:=E8.out;clear E8
  refine jc_ H ?_ ?_<;>clear H<;>intro c2 H
  ·have U:=decide_eq_true c2
   have a3:decide (r5.length<r4.length)=true:=decide_eq_true (Int.ofNat_lt.mp c2)
   clear c2
   (first|rw[U]|rw[a3]|(simp only[i64_w,i32_w];rw[U])|skip)
   have H' :=am_ H;clear H
   go_wp2
   go_meet
   case rel=>exact⟨_,(r5),H',⟨qo_⟩,⟨ra_ c1⟩,⟨by(with_reducible repeat(first|apply Kd.R_alloc|apply Kd.R_drewN|apply Kd.R_drew));exact Kd.R_mono H5.out (fun _ hk=>trivial)⟩,⟨by(with_reducible repeat(first|apply Kd.S_alloc|apply Kd.S_drewN|apply Kd.S_drew));exact Kd.S_mono a4.out (fun _ hk=>hk.2)⟩,⟨qk_ A⟩,⟨qk_ x⟩,⟨qk_ B⟩,⟨by repeat(first|(with_reducible exact i.out)|(with_reducible refine Kd.C_alloc ?_ _)|(with_reducible refine Kd.C_drewN ?_ _)|(with_reducible refine Kd.C_drew ?_)|exact i.out)⟩,⟨by repeat(first|(with_reducible exact q.out)|(with_reducible refine Kd.C_alloc ?_ _)|(with_reducible refine Kd.C_drewN ?_ _)|(with_reducible refine Kd.C_drew ?_)|exact q.out)⟩,⟨qB_⟩⟩
  have U:=decide_eq_false c2
  have a3:decide (r5.length<r4.length)=false:=decide_eq_false (fun h=>c2 (Int.ofNat_lt.mpr h))
  clear c2
  (first|rw[U]|rw[a3]|(simp only[i64_w,i32_w];rw[U])|skip)
  have H' :=am_ H;clear H
  go_wp2
  go_meet
  case rel=>exact⟨_,(r4),H',⟨qo_⟩,⟨ra_ c1⟩,⟨by(with_reducible repeat(first|apply Kd.R_alloc|apply Kd.R_drewN|apply Kd.R_drew));exact Kd.R_mono m7.out (fun _ hk=>trivial)⟩,⟨by(with_reducible repeat(first|apply Kd.S_alloc|apply Kd.S_drewN|apply Kd.S_drew));exact Kd.S_mono a4.out (fun _ hk=>hk.1.2)⟩,⟨qk_ A⟩,⟨qk_ x⟩,⟨qk_ B⟩,⟨by repeat(first|(with_reducible exact i.out)|(with_reducible refine Kd.C_alloc ?_ _)|(with_reducible refine Kd.C_drewN ?_ _)|(with_reducible refine Kd.C_drew ?_)|exact i.out)⟩,⟨by repeat(first|(with_reducible exact q.out)|(with_reducible refine Kd.C_alloc ?_ _)|(with_reducible refine Kd.C_drewN ?_ _)|(with_reducible refine Kd.C_drew ?_)|exact q.out)⟩,⟨qB_⟩⟩
 case rest=>
  clear E8 e3 e4 b9 c0 x1 x2 x5 x6 x9 y0 x3 x4 x7 x8 y1 y2 o6 o7 a7 a9 a8 b0
  obtain⟨kq,o,HA,e2,s,F,J,A,x,B,i,q,HB⟩:=hcut
  cases kq with
  |zero=>exact absurd HA.out (by simp [spec_l08Search.j0])
  |succ kj13=>
   have H:=HA.out;clear HA
   simp only[spec_l08Search.j0]at H
   have F3:=am_ H
   clear H
   go_upto_if 55 with (fail)
   go_cut [13] (fun v13 wc=>∃ (kq:Nat) (y:Int),v13= .int .i64 y∧Aside0 (spec_l08Search.j1 kq b8 m9 o y D m=some (o3,o4))∧Aside0 (kq≤kj13)∧Aside0 (Kd.R k72 72 wc w.heap.size (fun _=>True) A6 m9)∧Aside0 (Kd.R (Kd.int .i64) 3 wc w.heap.size (fun _=>True) u11 o)∧Aside0 (Kd.S (Kd.slice 3 (Kd.int .i64)) 51 wc w.heap.size (fun k_=>some k_≠(u11:Value).ownBlock) (.slice (some z) E.length b3) E)∧Aside0 (wc.heap[n0]? =some (.cells #[.int .i64 D,(.slice a1 m.length a2)] 29 (0,0)))∧Aside0 (wc.heap[h3]? =some (.cells #[.int .i64 G,.int .i64 I] 43 (0,0)))∧Aside0 (wc.heap[a5]? =some (.cells #[.int .i64 b7,(.slice (some z) E.length b3)] 39 (0,0)))∧Aside0 (Kd.C (Kd.int .i64) wc A394_0 (rd_L4 E e0).length (rd_L4 E e0))∧Aside0 (Kd.C (Kd.int .i64) wc A399_0 (rd_L4 E e1).length (rd_L4 E e1))∧Aside0 (Below w.heap.size w wc))
   case first=>
    have H:=F3.out;clear F3
    refine jc_ H ?_ ?_<;>clear H<;>intro e7 H
    ·have Z:decide (4<(wrap64 (b8 + 1)))=true:=decide_eq_true e7
     clear e7
     (first|rw[Z]|(simp only[i64_w,i32_w];rw[Z])|skip)
     have H' :=am_ H;clear H
     go_wp2
     go_meet
     case rel=>exact⟨_,(4),qe_,H',⟨by have:=e2.out;first|omega|exact Nat.le_refl _⟩,⟨ra_ s⟩,⟨ra_ F⟩,⟨by(with_reducible repeat(first|apply Kd.S_alloc|apply Kd.S_drewN|apply Kd.S_drew));first|exact J.out|(have h_:=J.out;simp only[own_slice]at h_ ⊢;exact h_)⟩,⟨qk_ A⟩,⟨qk_ x⟩,⟨qk_ B⟩,⟨by repeat(first|(with_reducible exact i.out)|(with_reducible refine Kd.C_alloc ?_ _)|(with_reducible refine Kd.C_drewN ?_ _)|(with_reducible refine Kd.C_drew ?_)|exact i.out)⟩,⟨by repeat(first|(with_reducible exact q.out)|(with_reducible refine Kd.C_alloc ?_ _)|(with_reducible refine Kd.C_drewN ?_ _)|(with_reducible refine Kd.C_drew ?_)|exact q.out)⟩,⟨qB_⟩⟩
    have Z:decide (4<(wrap64 (b8 + 1)))=false:=decide_eq_false e7
    clear e7
    (first|rw[Z]|(simp only[i64_w,i32_w];rw[Z])|skip)
    have H' :=am_ H;clear H
    go_wp2
    go_meet
    case rel=>exact⟨_,(wrap64 (b8 + 1)),qe_,H',⟨by have:=e2.out;first|omega|exact Nat.le_refl _⟩,⟨ra_ s⟩,⟨ra_ F⟩,⟨by(with_reducible repeat(first|apply Kd.S_alloc|apply Kd.S_drewN|apply Kd.S_drew));first|exact J.out|(have h_:=J.out;simp only[own_slice]at h_ ⊢;exact h_)⟩,⟨qk_ A⟩,⟨qk_ x⟩,⟨qk_ B⟩,⟨by repeat(first|(with_reducible exact i.out)|(with_reducible refine Kd.C_alloc ?_ _)|(with_reducible refine Kd.C_drewN ?_ _)|(with_reducible refine Kd.C_drew ?_)|exact i.out)⟩,⟨by repeat(first|(with_reducible exact q.out)|(with_reducible refine Kd.C_alloc ?_ _)|(with_reducible refine Kd.C_drewN ?_ _)|(with_reducible refine Kd.C_drew ?_)|exact q.out)⟩,⟨qB_⟩⟩
   case rest=>
    clear F3
    obtain⟨kq,y,rfl,HA,f6,s,F,J,A,x,B,i,q,HB⟩:=hcut
    cases kq with
    |zero=>exact absurd HA.out (by simp [spec_l08Search.j1])
    |succ kj38=>
     have H:=HA.out;clear HA
     simp only[spec_l08Search.j1]at H
     have H' :=am_ H;clear H
     go_wp2
     go_loopg [14] kj38 (fun kq v14 w' =>∃ (l:List (S72)) (c:Int),v14= .int .i64 c∧Aside0 (spec_l08Search.l0 kq b8 l o y c D m=some (o3,o4))∧Aside0 (kq≤kj38)∧Aside0 (Kd.R k72 72 w' w.heap.size (fun _=>True) A6 l)∧Aside0 (Kd.R (Kd.int .i64) 3 w' w.heap.size (fun _=>True) u11 o)∧Aside0 (Kd.S (Kd.slice 3 (Kd.int .i64)) 51 w' w.heap.size (fun k_=>some k_≠(u11:Value).ownBlock) (.slice (some z) E.length b3) E)∧Aside0 (w'.heap[n0]? =some (.cells #[.int .i64 D,(.slice a1 m.length a2)] 29 (0,0)))∧Aside0 (w'.heap[h3]? =some (.cells #[.int .i64 G,.int .i64 I] 43 (0,0)))∧Aside0 (w'.heap[a5]? =some (.cells #[.int .i64 b7,(.slice (some z) E.length b3)] 39 (0,0)))∧Aside0 (Below w.heap.size w w'))
     case atStart=>exact⟨(m9),(0),qe_,H',⟨Nat.le_refl _⟩,⟨ra_ s⟩,⟨ra_ F⟩,⟨by(with_reducible repeat(first|apply Kd.S_alloc|apply Kd.S_drewN|apply Kd.S_drew));first|exact J.out|(have h_:=J.out;simp only[own_slice]at h_ ⊢;exact h_)⟩,⟨qk_ A⟩,⟨qk_ x⟩,⟨qk_ B⟩,⟨qB_⟩⟩
     case round=>
      clear H'
      obtain⟨l,c,rfl,HA,HK3,s,F,J,A,x,B,HB⟩:=hrel
      cases gk with
      |zero=>exact absurd HA.out (by simp [spec_l08Search.l0])
      |succ p1=>
       have H:=HA.out;clear HA
       simp only[spec_l08Search.l0]at H
       refine ic_ H ?_ ?_<;>clear H<;>intro j8 H
       ·refine ig_ H ?_;clear H;intro j9 H
        generalize k0:((rd_T72 l c).f3)=H6 at H;have V:=am_ k0.symm;clear k0
        refine id_ H ?_ ?_<;>clear H<;>rintro rfl H
        ·have H' :=am_ H;clear H
         obtain⟨V3,V4,O0⟩:=Kd.R_slice s.out
         subst O0
         have b1:=dt_ c
         have b2:=du_ c l.length
         obtain⟨a0,c3,w3,w4,w5,m8⟩:=at_T72 (Kd.R_reads' s.out).2.2 c (ot_ b1) (ot_ b2)
         rw[←V.out]at m8
         cases c3
         go_wp2
         go_roundg p1
         case measure=>have:=e2.out;have:=f6.out;have:=HK3.out;omega
         case rel=>exact⟨(l),(wrap64 (c + 1)),qe_,H',⟨by have:=e2.out;have:=f6.out;have:=HK3.out;omega⟩,⟨ra_ s⟩,⟨ra_ F⟩,⟨by(with_reducible repeat(first|apply Kd.S_alloc|apply Kd.S_drewN|apply Kd.S_drew));first|exact J.out|(have h_:=J.out;simp only[own_slice]at h_ ⊢;exact h_)⟩,⟨qk_ A⟩,⟨qk_ x⟩,⟨qk_ B⟩,⟨qB_⟩⟩
        refine jb_ H ?_ ?_<;>clear H<;>intro f9 H
        ·have g0:(((rd_T72 l c).f2)==b8)=false:=beq_eq_false_iff_ne.mpr f9
         have g1:(((rd_T72 l c).f2) != b8)=true:=bne_iff_ne.mpr f9
         have H' :=am_ H;clear H
         obtain⟨V5,V6,O1⟩:=Kd.R_slice s.out
         subst O1
         have b1:=dt_ c
         have b2:=du_ c l.length
         obtain⟨a0,c3,w3,w4,w5,m8⟩:=at_T72 (Kd.R_reads' s.out).2.2 c (ot_ b1) (ot_ b2)
         rw[←V.out]at m8
         cases c3
         have c4:=dt_ c
         have c5:=du_ c l.length
         obtain⟨c6,e8,y5,y6,y7,p2⟩:=at_T72 (Kd.R_reads' s.out).2.2 c (ot_ c4) (ot_ c5)
         rw[←V.out]at p2
         obtain rfl:a0=c6:=(by injection e8)
         go_wp2
         go_roundg p1
         case measure=>have:=e2.out;have:=f6.out;have:=HK3.out;omega
         case rel=>exact⟨(l),(wrap64 (c + 1)),qe_,H',⟨by have:=e2.out;have:=f6.out;have:=HK3.out;omega⟩,⟨ra_ s⟩,⟨ra_ F⟩,⟨by(with_reducible repeat(first|apply Kd.S_alloc|apply Kd.S_drewN|apply Kd.S_drew));first|exact J.out|(have h_:=J.out;simp only[own_slice]at h_ ⊢;exact h_)⟩,⟨qk_ A⟩,⟨qk_ x⟩,⟨qk_ B⟩,⟨qB_⟩⟩
        have g0:(((rd_T72 l c).f2)==b8)=true:=beq_iff_eq.mpr f9
        have g1:(((rd_T72 l c).f2) != b8)=false:=bne_eq_false_iff_eq.mpr f9
        clear f9
        obtain⟨V7,y8,H⟩:=bs_ H
        refine id_ H ?_ ?_<;>clear H<;>rintro rfl H
        ·have H' :=am_ H;clear H
         obtain⟨V8,V9,O2⟩:=Kd.R_slice s.out
         subst O2
         have b1:=dt_ c
         have b2:=du_ c l.length
         obtain⟨a0,c3,w3,w4,w5,m8⟩:=at_T72 (Kd.R_reads' s.out).2.2 c (ot_ b1) (ot_ b2)
         rw[←V.out]at m8
         cases c3
         have c4:=dt_ c
         have c5:=du_ c l.length
         obtain⟨c6,e8,y5,y6,y7,p2⟩:=at_T72 (Kd.R_reads' s.out).2.2 c (ot_ c4) (ot_ c5)
         rw[←V.out]at p2
         obtain rfl:a0=c6:=(by injection e8)
         have e9:=dt_ c
         have f4:=du_ c l.length
         obtain⟨g2,k1,C4,C5,C6,w6⟩:=at_T72 (Kd.R_reads' s.out).2.2 c (ot_ e9) (ot_ f4)
         rw[←V.out]at w6
         obtain rfl:a0=g2:=(by injection k1)
         obtain⟨W0,W1,O3⟩:=Kd.R_slice F.out
         subst O3
         go_wp2_with (first|(go_at_call 105;(with_reducible refine(spec_l05In.calls p1 _ _ o ((rd_T72 l c).f0) false _ ?_ ?_ y8.out).mono ?_);exact qD_ (Kd.R_reads' F.out).2.2;exact(Kd.R_reads' F.out).2.1;rintro e w' ⟨rfl,⟨nd,rfl⟩⟩))
         go_roundg p1
         case measure=>have:=e2.out;have:=f6.out;have:=HK3.out;omega
         case rel=>exact⟨(l),(wrap64 (c + 1)),qe_,H',⟨by have:=e2.out;have:=f6.out;have:=HK3.out;omega⟩,⟨ra_ s⟩,⟨ra_ F⟩,⟨by(with_reducible repeat(first|apply Kd.S_alloc|apply Kd.S_drewN|apply Kd.S_drew));first|exact J.out|(have h_:=J.out;simp only[own_slice]at h_ ⊢;exact h_)⟩,⟨qk_ A⟩,⟨qk_ x⟩,⟨qk_ B⟩,⟨qB_⟩⟩
        generalize k2:(l.set (c:Int).toNat (⟨(rd_T72 l c).f0,(rd_T72 l c).f1,y,true⟩:S72))=H7 at H;replace H:=bh_ H;have s0:=am_ k2.symm;clear k2;have H' :=am_ H;clear H
        obtain⟨W2,j2,O4⟩:=Kd.R_slice s.out
        subst O4
        have b1:=dt_ c
        have b2:=du_ c l.length
        obtain⟨a0,c3,w3,w4,w5,m8⟩:=at_T72 (Kd.R_reads' s.out).2.2 c (ot_ b1) (ot_ b2)
        rw[←V.out]at m8
        cases c3
        have c4:=dt_ c
        have c5:=du_ c l.length
        obtain⟨c6,e8,y5,y6,y7,p2⟩:=at_T72 (Kd.R_reads' s.out).2.2 c (ot_ c4) (ot_ c5)
        rw[←V.out]at p2
        obtain rfl:a0=c6:=(by injection e8)
        have e9:=dt_ c
        have f4:=du_ c l.length
        obtain⟨g2,k1,C4,C5,C6,w6⟩:=at_T72 (Kd.R_reads' s.out).2.2 c (ot_ e9) (ot_ f4)
        rw[←V.out]at w6
        obtain rfl:a0=g2:=(by injection k1)
        obtain⟨H8,H9,O5⟩:=Kd.R_slice F.out
        subst O5
        go_wp2_with (first|(go_at_call 105;(with_reducible refine(spec_l05In.calls p1 _ _ o ((rd_T72 l c).f0) true _ ?_ ?_ y8.out).mono ?_);exact qD_ (Kd.R_reads' F.out).2.2;exact(Kd.R_reads' F.out).2.1;rintro e w' ⟨rfl,⟨nd,rfl⟩⟩;((rw[drewN_self wr];generalize hq_:World.drewN wr _=wr;have h4:Aside0 (Kd.R (Kd.int .i64) 3 wr w.heap.size (fun _=>True) (.slice H8 o.length H9) o):=⟨by rw[←hq_];exact(qR_ F)⟩;have h5:Aside0 (Kd.S (Kd.slice 3 (Kd.int .i64)) 51 wr w.heap.size (fun k_=>some k_≠(.slice H8 o.length H9:Value).ownBlock) (.slice (some z) E.length b3) E):=⟨by rw[←hq_];exact(qS_ J)⟩;have h6:Aside0 (Kd.R k72 72 wr w.heap.size (fun _=>True) (.slice (some a0) l.length j2) l):=⟨by rw[←hq_];exact(qR_ s)⟩;have h7:Aside0 (wr.heap[n0]? =some (.cells #[.int .i64 D,.slice a1 m.length a2] 29 (0,0))):=⟨by rw[←hq_];exact(qk_ A)⟩;have h8:Aside0 (wr.heap[h3]? =some (.cells #[.int .i64 G,.int .i64 I] 43 (0,0))):=⟨by rw[←hq_];exact(qk_ x)⟩;have h9:Aside0 (wr.heap[a5]? =some (.cells #[.int .i64 b7,.slice (some z) E.length b3] 39 (0,0))):=⟨by rw[←hq_];exact(qk_ B)⟩;have y9:Aside0 (Below w.heap.size w wr):=⟨by rw[←hq_];exact qB_⟩;clear F J s A x B HB hq_;have F:=h4;have J:=h5;have s:=h6;have A:=h7;have x:=h8;have B:=h9;have HB:=y9;clear h4 h5 h6 h7 h8 h9 y9;have hcr_gb379_0:wr.cell? ⟨n0,0,none⟩=some (.int .i64 D):=bl_ A 0;have hfr_gb379_0:=blk_frozen A.out 0;have hcr_gb379_1:wr.cell? ⟨n0,1,none⟩=some (.slice a1 m.length a2):=bl_ A 1;have hfr_gb379_1:=blk_frozen A.out 1;have hcr_gb380_0:wr.cell? ⟨h3,0,none⟩=some (.int .i64 G):=bl_ x 0;have hfr_gb380_0:=blk_frozen x.out 0;have hcr_gb380_1:wr.cell? ⟨h3,1,none⟩=some (.int .i64 I):=bl_ x 1;have hfr_gb380_1:=blk_frozen x.out 1;have hcr_gb392_0:wr.cell? ⟨a5,0,none⟩=some (.int .i64 b7):=bl_ B 0;have hfr_gb392_0:=blk_frozen B.out 0;have hcr_gb392_1:wr.cell? ⟨a5,1,none⟩=some (.slice (some z) E.length b3):=bl_ B 1;have hfr_gb392_1:=blk_frozen B.out 1));have g3:=dp_ c;have g4:(c:Int)<((l.length:Int):Int):=of_decide_eq_true qa_;obtain⟨L,W3,I0,I1,z0,I2,p3⟩:=Kd.R_form s.out (by omega);(first|cases I0|(injection I0 with ea_ en_ ec_;(first|subst ea_|(injection ea_ with ea_;subst ea_));subst ec_;clear en_));have z1:=am_ I1;have I3:=am_ p3;clear I1 z0 p3;(first|simp only[add_plain]at w3|skip);(first|simp only[add_plain]at w4|skip);(first|simp only[add_plain]at w5|skip);(first|simp only[add_plain]at m8|skip);(first|simp only[add_plain]at y5|skip);(first|simp only[add_plain]at y6|skip);(first|simp only[add_plain]at y7|skip);(first|simp only[add_plain]at p2|skip);(first|simp only[add_plain]at C4|skip);(first|simp only[add_plain]at C5|skip);(first|simp only[add_plain]at C6|skip);(first|simp only[add_plain]at w6|skip);obtain⟨I4,s1,p4,c7,c8⟩:=Kd.R_elem s.out z72 (c:Int) g3 g4;obtain rfl:=k72_openM p4;have j3:wr.cell? ⟨L,(c:Int).toNat * 4,none⟩=some (.int .i64 ((rd_T72 l c).f0)):=c7 0 _ rfl;have I5:wr.cell? ⟨L,(c:Int).toNat * 4 + 1,none⟩=some (.int .i64 ((rd_T72 l c).f1)):=c7 1 _ rfl;have I6:wr.cell? ⟨L,(c:Int).toNat * 4 + 2,none⟩=some (.int .i64 ((rd_T72 l c).f2)):=c7 2 _ rfl;have I7:wr.cell? ⟨L,(c:Int).toNat * 4 + 3,none⟩=some (.bool ((rd_T72 l c).f3)):=c7 3 _ rfl;have C7:wr.frozen? ⟨L,(c:Int).toNat * 4,none⟩=false:=c8 0;have C8:wr.frozen? ⟨L,(c:Int).toNat * 4 + 1,none⟩=false:=c8 1;have C9:wr.frozen? ⟨L,(c:Int).toNat * 4 + 2,none⟩=false:=c8 2;have D0:wr.frozen? ⟨L,(c:Int).toNat * 4 + 3,none⟩=false:=c8 3;clear s1 c7 c8 p4;replace g3:=eq_true g3;replace g4:=eq_true g4;have p5:=am_ (show Kd.R k72 72 wr w.heap.size (fun _=>True) (.slice (some ⟨L,0,none⟩) l.length j2) l from(qR_ s));obtain⟨I8,k3,p6,g5,k4⟩:=Kd.R_elem p5.out z72 (c:Int) (of_decide_eq_true qa_) (by have h_:(c:Int)<((l.length:Int):Int):=of_decide_eq_true qa_;first|exact h_|(have e_:=(Kd.R_reads' s.out).1;omega)|simpa using h_);obtain rfl:=k72_openM p6;have k5:=Kd.R_seg p5.out (c:Int) (of_decide_eq_true qa_) (by have h_:(c:Int)<((l.length:Int):Int):=of_decide_eq_true qa_;first|exact h_|(have e_:=(Kd.R_reads' s.out).1;omega)|simpa using h_) (seg:=[.int .i64 y]) (j:=2) k3 g5 (show 3≤4 from by decide) (x' :=(⟨(rd_T72 l c).f0,(rd_T72 l c).f1,y,true⟩:S72)) (by have e_:true=(List.getD l (c).toNat z72).f3:=V.out;rw[←e_];exact k72_mkM _ _ _ (⟨(rd_T72 l c).f0,(rd_T72 l c).f1,y,true⟩:S72)) (fun _ hk=>hk);have F5:=g5 2 _ rfl;simp only[show(k72).sz=4 from rfl,Nat.mul_one,Nat.add_zero]at F5;have n6:=k4 2;simp only[show(k72).sz=4 from rfl,Nat.mul_one,Nat.add_zero]at n6;clear k3 g5 k4 p6)|((with_reducible refine gate_store (t:=3) (p:=89) rfl ?_);refine store_event (t:=3) (p:=89) (v:= ?vo_w52) (w1:=(wr.setCell ⟨L,(c:Int).toNat * 4 + 2,none⟩ (.int .i64 y))) ?hg ?ho ?hn ?hr ?_;(case ho=>rfl);(case hg=>rfl);(case hn=>rfl);(case hr=>first|(go_simp;done)|(go_simp;rfl));intro s2 hw;have hg:wr.grownBy s2 (some L):=(by rw[hw];exact k5.2);have hp_:Kd.R k72 72 s2 w.heap.size (fun _=>True) (.slice (some ⟨L,0,none⟩) l.length j2) H7:=(by rw[hw,s0.out];exact k5.1);clear k5;refine dn7_ (am_ (hp_)) (am_ (Kd.R_over' (v:=(.slice (some ⟨L,0,none⟩) l.length j2)) (qR_ F) (Kd.R_typed s.out) (by decide) hg)) (am_ (Kd.S_over' (v:=(.slice (some ⟨L,0,none⟩) l.length j2)) (qS_ J) (Kd.R_typed s.out) (by decide) hg)) (am_ (blk_grown (qk_ A) hg (Kd.R_ne s.out A.out (by decide)))) (am_ (blk_grown (qk_ x) hg (Kd.R_ne s.out x.out (by decide)))) (am_ (blk_grown (qk_ B) hg (Kd.R_ne s.out B.out (by decide)))) (am_ ((by rw[hw];exact below_set (HB.out) z1.out:Below w.heap.size w s2))) ?_;clear s F J A x B HB;intro s F J A x B HB;clear hg hw hp_))
        go_roundg p1
        case measure=>have:=e2.out;have:=f6.out;have:=HK3.out;omega
        case rel=>exact⟨(H7),(wrap64 (c + 1)),qe_,H',⟨by have:=e2.out;have:=f6.out;have:=HK3.out;omega⟩,⟨ra_ s⟩,⟨ra_ F⟩,⟨by(with_reducible repeat(first|apply Kd.S_alloc|apply Kd.S_drewN|apply Kd.S_drew));first|exact J.out|(have h_:=J.out;simp only[own_slice]at h_ ⊢;exact h_)⟩,⟨qk_ A⟩,⟨qk_ x⟩,⟨qk_ B⟩,⟨qB_⟩⟩
       have H' :=am_ H;clear H
       obtain⟨O6,h2,O7⟩:=Kd.R_slice s.out
       subst O7
       go_wp2
       go_loopg [15] p1 (fun kq v15 w' =>∃ (d:List (S72)) (a:Int),v15= .int .i64 a∧Aside0 (spec_l08Search.l1 kq b8 d o y a D m=some (o3,o4))∧Aside0 (kq≤p1)∧Aside0 (Kd.R k72 72 w' w.heap.size (fun _=>True) (.slice O6 l.length h2) d)∧Aside0 (Kd.R (Kd.int .i64) 3 w' w.heap.size (fun _=>True) u11 o)∧Aside0 (Kd.S (Kd.slice 3 (Kd.int .i64)) 51 w' w.heap.size (fun k_=>some k_≠(u11:Value).ownBlock) (.slice (some z) E.length b3) E)∧Aside0 (w'.heap[n0]? =some (.cells #[.int .i64 D,(.slice a1 m.length a2)] 29 (0,0)))∧Aside0 (w'.heap[h3]? =some (.cells #[.int .i64 G,.int .i64 I] 43 (0,0)))∧Aside0 (w'.heap[a5]? =some (.cells #[.int .i64 b7,(.slice (some z) E.length b3)] 39 (0,0)))∧Aside0 (Below w.heap.size w w'))
       case atStart=>exact⟨(l),(0),qe_,H',⟨Nat.le_refl _⟩,⟨ra_ s⟩,⟨ra_ F⟩,⟨by(with_reducible repeat(first|apply Kd.S_alloc|apply Kd.S_drewN|apply Kd.S_drew));first|exact J.out|(have h_:=J.out;simp only[own_slice]at h_ ⊢;exact h_)⟩,⟨qk_ A⟩,⟨qk_ x⟩,⟨qk_ B⟩,⟨qB_⟩⟩
       case round=>
        clear H' j8
        obtain⟨d,a,rfl,HA,HK4,s,F,J,A,x,B,HB⟩:=hrel
        have g:=(Kd.R_reads' s.out).1
        rw[g]at s
        simp only[g]
        cases gk with
        |zero=>exact absurd HA.out (by simp [spec_l08Search.l1])
        |succ G4=>
         have H:=HA.out;clear HA
         simp only[spec_l08Search.l1]at H
         refine ib_ H ?_ ?_<;>clear H<;>intro k6 H<;>skip
         ·simp only[Option.some.injEq,Prod.mk.injEq]at H
          obtain⟨rfl,rfl⟩:=H
          go_wp2
          go_ret2
          exact⟨_,qr_,qR_ s,qB_⟩
         refine ig_ H ?_;clear H;intro s3 H
         obtain⟨J1,G5,H⟩:=bs_ H
         obtain⟨G6,G7,H⟩:=bs_ H
         have G8:=am_ H
         clear H
         have p7:=dt_ a
         have p8:=du_ a d.length
         obtain⟨k7,z7,J2,J3,J4,J5⟩:=at_T72 (Kd.R_reads' s.out).2.2 a (ot_ p7) (ot_ p8)
         cases z7
         obtain⟨D1,D2,P3⟩:=Kd.R_slice F.out
         subst P3
         go_upto_region 20 with (first|((with_reducible refine gc_ 105 ?_);refine gl_ (some 102) Try.func105 #[.slice D1 o.length D2,.int .i64 ((rd_T72 d a).f0)] ?_;(with_reducible refine(spec_l05In.calls G4 _ _ o ((rd_T72 d a).f0) J1 _ ?_ ?_ G5.out).mono ?_);exact qD_ (Kd.R_reads' F.out).2.2;exact(Kd.R_reads' F.out).2.1;rintro e w' ⟨rfl,⟨nd,rfl⟩⟩;refine⟨_,rfl,?_⟩;have p9:=dt_ a;have q0:=du_ a d.length;obtain⟨s4,z8,J6,J7,J8,J9⟩:=at_T72 (Kd.R_reads' s.out).2.2 a (ot_ p9) (ot_ q0);obtain rfl:k7=s4:=(by injection z8);)|((with_reducible refine gc_ 105 ?_);refine gl_ (some 109) Try.func105 #[.slice D1 o.length D2,.int .i64 ((rd_T72 d a).f1)] ?_;(with_reducible refine(spec_l05In.calls G4 _ _ o ((rd_T72 d a).f1) G6 _ ?_ ?_ G7.out).mono ?_);exact qD_ (Kd.R_reads' F.out).2.2;exact(Kd.R_reads' F.out).2.1;rintro e w' ⟨rfl,⟨nd,rfl⟩⟩;refine⟨_,rfl,?_⟩))
         go_cut [133] (fun P4 wc=>∃ (kq:Nat) (c9:Bool),P4= .bool c9∧Aside0 (spec_l08Search.j4 kq b8 d o y a J1 G6 c9 D m=some (o3,o4))∧Aside0 (kq≤G4)∧Aside0 (Kd.R k72 72 wc w.heap.size (fun _=>True) (.slice (some k7) d.length h2) d)∧Aside0 (Kd.R (Kd.int .i64) 3 wc w.heap.size (fun _=>True) (.slice D1 o.length D2) o)∧Aside0 (Kd.S (Kd.slice 3 (Kd.int .i64)) 51 wc w.heap.size (fun k_=>some k_≠((.slice D1 o.length D2):Value).ownBlock) (.slice (some z) E.length b3) E)∧Aside0 (wc.heap[n0]? =some (.cells #[.int .i64 D,(.slice a1 m.length a2)] 29 (0,0)))∧Aside0 (wc.heap[h3]? =some (.cells #[.int .i64 G,.int .i64 I] 43 (0,0)))∧Aside0 (wc.heap[a5]? =some (.cells #[.int .i64 b7,(.slice (some z) E.length b3)] 39 (0,0)))∧Aside0 (Below w.heap.size w wc))
         case first=>
          have H:=G8.out;clear G8
          refine ig_ H ?_;clear H;intro g6 H
          (first|rw[g6]|(simp only[i64_w,i32_w];rw[g6])|skip)
          generalize k8:((rd_T72 m a).f3)=K0 at H;have a6:=am_ k8.symm;clear k8
          refine ie_ H ?_ ?_<;>clear H<;>rintro rfl H
          ·have H' :=am_ H;clear H;obtain⟨u4,u5⟩:=nn_ x0;obtain⟨u6,u7⟩:=nn_ A7
           obtain⟨P5,P6,P7,P8⟩:=bc2_ A
           have b5:=dt_ a
           have b6:=du_ a m.length
           obtain⟨b4,d0,i3,i4,i5,f7⟩:=at_T72 Y.out a (ot_ b5) (ot_ b6)
           rw[←a6.out]at f7
           cases d0
           replace i3:=qx_ HB i3
           replace i4:=qx_ HB i4
           replace i5:=qx_ HB i5
           replace f7:=qx_ HB f7
           go_wp2
           go_meet
           case rel=>exact⟨_,(true),qe_,H',⟨by have:=e2.out;have:=f6.out;have:=HK3.out;have:=HK4.out;first|omega|exact Nat.le_refl _⟩,⟨by(with_reducible repeat(first|apply Kd.R_alloc|apply Kd.R_drewN|apply Kd.R_drew));first|exact s.out|(have h_:=s.out;simp only[own_slice]at h_ ⊢;exact h_)⟩,⟨by(with_reducible repeat(first|apply Kd.R_alloc|apply Kd.R_drewN|apply Kd.R_drew));first|exact F.out|(have h_:=F.out;simp only[own_slice]at h_ ⊢;exact h_)⟩,⟨by(with_reducible repeat(first|apply Kd.S_alloc|apply Kd.S_drewN|apply Kd.S_drew));first|exact J.out|(have h_:=J.out;simp only[own_slice]at h_ ⊢;exact h_)⟩,⟨by exact qf_ A⟩,⟨by exact qf_ x⟩,⟨by exact qf_ B⟩,⟨qB_⟩⟩
          refine jb_ H ?_ ?_<;>clear H<;>intro i2 H
          ·have k9:(((rd_T72 m a).f2)==b8)=false:=beq_eq_false_iff_ne.mpr i2
           have l4:(((rd_T72 m a).f2) != b8)=true:=bne_iff_ne.mpr i2
           have H' :=am_ H;clear H;obtain⟨u8,u9⟩:=nn_ x0;obtain⟨v0,v1⟩:=nn_ A7
           obtain⟨P9,Q0,Q1,l2⟩:=bc2_ A
           have b5:=dt_ a
           have b6:=du_ a m.length
           obtain⟨b4,d0,i3,i4,i5,f7⟩:=at_T72 Y.out a (ot_ b5) (ot_ b6)
           rw[←a6.out]at f7
           cases d0
           replace i3:=qx_ HB i3
           replace i4:=qx_ HB i4
           replace i5:=qx_ HB i5
           replace f7:=qx_ HB f7
           have d8:=dt_ a
           have d9:=du_ a m.length
           obtain⟨d1,f5,n7,n8,n9,i6⟩:=at_T72 Y.out a (ot_ d8) (ot_ d9)
           rw[←a6.out]at i6
           obtain rfl:b4=d1:=(by injection f5)
           replace n7:=qx_ HB n7
           replace n8:=qx_ HB n8
           replace n9:=qx_ HB n9
           replace i6:=qx_ HB i6
           go_wp2
           go_meet
           case rel=>exact⟨_,(true),qe_,H',⟨by have:=e2.out;have:=f6.out;have:=HK3.out;have:=HK4.out;first|omega|exact Nat.le_refl _⟩,⟨by(with_reducible repeat(first|apply Kd.R_alloc|apply Kd.R_drewN|apply Kd.R_drew));first|exact s.out|(have h_:=s.out;simp only[own_slice]at h_ ⊢;exact h_)⟩,⟨by(with_reducible repeat(first|apply Kd.R_alloc|apply Kd.R_drewN|apply Kd.R_drew));first|exact F.out|(have h_:=F.out;simp only[own_slice]at h_ ⊢;exact h_)⟩,⟨by(with_reducible repeat(first|apply Kd.S_alloc|apply Kd.S_drewN|apply Kd.S_drew));first|exact J.out|(have h_:=J.out;simp only[own_slice]at h_ ⊢;exact h_)⟩,⟨by exact qf_ A⟩,⟨by exact qf_ x⟩,⟨by exact qf_ B⟩,⟨qB_⟩⟩
          have k9:(((rd_T72 m a).f2)==b8)=true:=beq_iff_eq.mpr i2
          have l4:(((rd_T72 m a).f2) != b8)=false:=bne_eq_false_iff_eq.mpr i2
          clear i2
          refine ie_ H ?_ ?_<;>clear H<;>rintro rfl H
          ·have H' :=am_ H;clear H;obtain⟨v2,v3⟩:=nn_ x0;obtain⟨v4,v5⟩:=nn_ A7
           obtain⟨l3,Q2,Q3,Q4⟩:=bc2_ A
           have b5:=dt_ a
           have b6:=du_ a m.length
           obtain⟨b4,d0,i3,i4,i5,f7⟩:=at_T72 Y.out a (ot_ b5) (ot_ b6)
           rw[←a6.out]at f7
           cases d0
           replace i3:=qx_ HB i3
           replace i4:=qx_ HB i4
           replace i5:=qx_ HB i5
           replace f7:=qx_ HB f7
           have d8:=dt_ a
           have d9:=du_ a m.length
           obtain⟨d1,f5,n7,n8,n9,i6⟩:=at_T72 Y.out a (ot_ d8) (ot_ d9)
           rw[←a6.out]at i6
           obtain rfl:b4=d1:=(by injection f5)
           replace n7:=qx_ HB n7
           replace n8:=qx_ HB n8
           replace n9:=qx_ HB n9
           replace i6:=qx_ HB i6
           go_wp2
           go_meet
           case rel=>exact⟨_,(false),qe_,H',⟨by have:=e2.out;have:=f6.out;have:=HK3.out;have:=HK4.out;first|omega|exact Nat.le_refl _⟩,⟨by(with_reducible repeat(first|apply Kd.R_alloc|apply Kd.R_drewN|apply Kd.R_drew));first|exact s.out|(have h_:=s.out;simp only[own_slice]at h_ ⊢;exact h_)⟩,⟨by(with_reducible repeat(first|apply Kd.R_alloc|apply Kd.R_drewN|apply Kd.R_drew));first|exact F.out|(have h_:=F.out;simp only[own_slice]at h_ ⊢;exact h_)⟩,⟨by(with_reducible repeat(first|apply Kd.S_alloc|apply Kd.S_drewN|apply Kd.S_drew));first|exact J.out|(have h_:=J.out;simp only[own_slice]at h_ ⊢;exact h_)⟩,⟨by exact qf_ A⟩,⟨by exact qf_ x⟩,⟨by exact qf_ B⟩,⟨qB_⟩⟩
          have H' :=am_ H;clear H;obtain⟨v6,v7⟩:=nn_ x0;obtain⟨v8,v9⟩:=nn_ A7
          obtain⟨Q5,Q6,Q7,Q8⟩:=bc2_ A
          have b5:=dt_ a
          have b6:=du_ a m.length
          obtain⟨b4,d0,i3,i4,i5,f7⟩:=at_T72 Y.out a (ot_ b5) (ot_ b6)
          rw[←a6.out]at f7
          cases d0
          replace i3:=qx_ HB i3
          replace i4:=qx_ HB i4
          replace i5:=qx_ HB i5
          replace f7:=qx_ HB f7
          have d8:=dt_ a
          have d9:=du_ a m.length
          obtain⟨d1,f5,n7,n8,n9,i6⟩:=at_T72 Y.out a (ot_ d8) (ot_ d9)
          rw[←a6.out]at i6
          obtain rfl:b4=d1:=(by injection f5)
          replace n7:=qx_ HB n7
          replace n8:=qx_ HB n8
          replace n9:=qx_ HB n9
          replace i6:=qx_ HB i6
          go_wp2
          go_meet
          case rel=>exact⟨_,(!G6),qe_,H',⟨by have:=e2.out;have:=f6.out;have:=HK3.out;have:=HK4.out;first|omega|exact Nat.le_refl _⟩,⟨by(with_reducible repeat(first|apply Kd.R_alloc|apply Kd.R_drewN|apply Kd.R_drew));first|exact s.out|(have h_:=s.out;simp only[own_slice]at h_ ⊢;exact h_)⟩,⟨by(with_reducible repeat(first|apply Kd.R_alloc|apply Kd.R_drewN|apply Kd.R_drew));first|exact F.out|(have h_:=F.out;simp only[own_slice]at h_ ⊢;exact h_)⟩,⟨by(with_reducible repeat(first|apply Kd.S_alloc|apply Kd.S_drewN|apply Kd.S_drew));first|exact J.out|(have h_:=J.out;simp only[own_slice]at h_ ⊢;exact h_)⟩,⟨by exact qf_ A⟩,⟨by exact qf_ x⟩,⟨by exact qf_ B⟩,⟨qB_⟩⟩
         case rest=>
          clear G8 k6 s3 J2 J3 J4 J5 J6 J7 J8 J9 p7 p9 p8 q0
          obtain⟨kq,c9,rfl,HA,D3,s,F,J,A,x,B,HB⟩:=hcut
          cases kq with
          |zero=>exact absurd HA.out (by simp [spec_l08Search.j4])
          |succ kj61=>
           have H:=HA.out;clear HA
           simp only[spec_l08Search.j4]at H
           refine ie_ H ?_ ?_<;>clear H<;>rintro rfl H
           ·have H' :=am_ H;clear H
            go_wp2
            simp only[←g]
            go_roundg kj61
            case measure=>have:=e2.out;have:=f6.out;have:=HK3.out;have:=HK4.out;have:=D3.out;omega
            case rel=>exact⟨(d),(wrap64 (a + 1)),qe_,H',⟨by have:=e2.out;have:=f6.out;have:=HK3.out;have:=HK4.out;have:=D3.out;omega⟩,⟨by simp only[g];(with_reducible repeat(first|apply Kd.R_alloc|apply Kd.R_drewN|apply Kd.R_drew));first|exact s.out|(have h_:=s.out;simp only[own_slice]at h_ ⊢;exact h_)⟩,⟨by(with_reducible repeat(first|apply Kd.R_alloc|apply Kd.R_drewN|apply Kd.R_drew));first|exact F.out|(have h_:=F.out;simp only[own_slice]at h_ ⊢;exact h_)⟩,⟨by(with_reducible repeat(first|apply Kd.S_alloc|apply Kd.S_drewN|apply Kd.S_drew));first|exact J.out|(have h_:=J.out;simp only[own_slice]at h_ ⊢;exact h_)⟩,⟨by exact qf_ A⟩,⟨by exact qf_ x⟩,⟨by exact qf_ B⟩,⟨qB_⟩⟩
           refine id_ H ?_ ?_<;>clear H<;>rintro rfl H
           ·refine ig_ H ?_;clear H;intro G9 H
            refine ig_ H ?_;clear H;intro H0 H
            generalize l5:(d.set (a:Int).toNat (⟨(rd_T72 d a).f0,(rd_T72 d a).f1,(rd_T72 d a).f2,true⟩:S72))=S7 at H;replace H:=bh_ H;have s5:=am_ l5.symm;clear l5
            simp only[Option.some.injEq,Prod.mk.injEq]at H
            obtain⟨rfl,rfl⟩:=H
            have s6:=dp_ a
            have s7:(a:Int)<((d.length:Int):Int):=of_decide_eq_true qa_
            obtain⟨M,W6,K1,K2,z9,K3,q1⟩:=Kd.R_form s.out (by omega)
            (first|cases K1|(injection K1 with ea_ en_ ec_;(first|subst ea_|(injection ea_ with ea_;subst ea_));subst ec_;clear en_))
            have A0:=am_ K2
            have K4:=am_ q1
            clear K2 z9 q1
            obtain⟨K5,s8,q2,d2,d3⟩:=Kd.R_elem s.out z72 (a:Int) s6 s7
            obtain rfl:=k72_openM q2
            have W7:wc.cell? ⟨M,(a:Int).toNat * 4,none⟩=some (.int .i64 ((rd_T72 d a).f0)):=d2 0 _ rfl
            have W8:wc.cell? ⟨M,(a:Int).toNat * 4 + 1,none⟩=some (.int .i64 ((rd_T72 d a).f1)):=d2 1 _ rfl
            have W9:wc.cell? ⟨M,(a:Int).toNat * 4 + 2,none⟩=some (.int .i64 ((rd_T72 d a).f2)):=d2 2 _ rfl
            have X0:wc.cell? ⟨M,(a:Int).toNat * 4 + 3,none⟩=some (.bool ((rd_T72 d a).f3)):=d2 3 _ rfl
            have D4:wc.frozen? ⟨M,(a:Int).toNat * 4,none⟩=false:=d3 0
            have D5:wc.frozen? ⟨M,(a:Int).toNat * 4 + 1,none⟩=false:=d3 1
            have D6:wc.frozen? ⟨M,(a:Int).toNat * 4 + 2,none⟩=false:=d3 2
            have D7:wc.frozen? ⟨M,(a:Int).toNat * 4 + 3,none⟩=false:=d3 3
            clear s8 d2 d3 q2;replace s6:=eq_true s6;replace s7:=eq_true s7
            have q3:=am_ (show Kd.R k72 72 wc w.heap.size (fun _=>True) (.slice (some ⟨M,0,none⟩) d.length h2) d from(qR_ s))
            obtain⟨K6,l6,q4,g7,l7⟩:=Kd.R_elem q3.out z72 (a:Int) (of_decide_eq_true qa_) (by have h_:(a:Int)<((d.length:Int):Int):=of_decide_eq_true qa_;first|exact h_|(have e_:=(Kd.R_reads' s.out).1;omega)|simpa using h_)
            obtain rfl:=k72_openM q4
            have l8:=Kd.R_seg q3.out (a:Int) (of_decide_eq_true qa_) (by have h_:(a:Int)<((d.length:Int):Int):=of_decide_eq_true qa_;first|exact h_|(have e_:=(Kd.R_reads' s.out).1;omega)|simpa using h_) (seg:=[.bool true]) (j:=3) l6 g7 (show 4≤4 from by decide) (x' :=(⟨(rd_T72 d a).f0,(rd_T72 d a).f1,(rd_T72 d a).f2,true⟩:S72)) (k72_mkM _ _ _ (⟨(rd_T72 d a).f0,(rd_T72 d a).f1,(rd_T72 d a).f2,true⟩:S72) ) (fun _ hk=>hk)
            have S8:=g7 3 _ rfl
            simp only[show(k72).sz=4 from rfl,Nat.mul_one,Nat.add_zero]at S8
            have o0:=l7 3
            simp only[show(k72).sz=4 from rfl,Nat.mul_one,Nat.add_zero]at o0
            clear l6 g7 l7 q4
            go_wp2_with (first|((with_reducible refine gate_store (t:=4) (p:=146) rfl ?_);refine store_event (t:=4) (p:=146) (v:= ?vo_w98) (w1:=(wc.setCell ⟨M,(a:Int).toNat * 4 + 3,none⟩ (.bool true))) ?hg ?ho ?hn ?hr ?_;(case ho=>rfl);(case hg=>rfl);(case hn=>rfl);(case hr=>first|(go_simp;done)|(go_simp;rfl));intro s9 hw;have hg:wc.grownBy s9 (some M):=(by rw[hw];exact l8.2);have hp_:Kd.R k72 72 s9 w.heap.size (fun _=>True) (.slice (some ⟨M,0,none⟩) d.length h2) S7:=(by rw[hw,s5.out];exact l8.1);clear l8;refine dn7_ (am_ (hp_)) (am_ (Kd.R_over' (v:=(.slice (some ⟨M,0,none⟩) d.length h2)) (qR_ F) (Kd.R_typed s.out) (by decide) hg)) (am_ (Kd.S_over' (v:=(.slice (some ⟨M,0,none⟩) d.length h2)) (qS_ J) (Kd.R_typed s.out) (by decide) hg)) (am_ (blk_grown (qk_ A) hg (Kd.R_ne s.out A.out (by decide)))) (am_ (blk_grown (qk_ x) hg (Kd.R_ne s.out x.out (by decide)))) (am_ (blk_grown (qk_ B) hg (Kd.R_ne s.out B.out (by decide)))) (am_ ((by rw[hw];exact below_set (HB.out) A0.out:Below w.heap.size w s9))) ?_;clear s F J A x B HB;intro s F J A x B HB;clear hg hw hp_))
            go_ret2
            exact⟨_,qr_,qR_ s,qB_⟩
           refine id_ H ?_ ?_<;>clear H<;>rintro rfl H
           ·refine ig_ H ?_;clear H;intro H1 H
            refine ig_ H ?_;clear H;intro H2 H
            generalize l9:(d.set (a:Int).toNat (⟨(rd_T72 d a).f0,(rd_T72 d a).f1,(rd_T72 d a).f2,true⟩:S72))=S9 at H;replace H:=bh_ H;have t0:=am_ l9.symm;clear l9
            simp only[Option.some.injEq,Prod.mk.injEq]at H
            obtain⟨rfl,rfl⟩:=H
            have t1:=dp_ a
            have t2:(a:Int)<((d.length:Int):Int):=of_decide_eq_true qa_
            obtain⟨O,X1,K7,K8,A1,K9,q5⟩:=Kd.R_form s.out (by omega)
            (first|cases K7|(injection K7 with ea_ en_ ec_;(first|subst ea_|(injection ea_ with ea_;subst ea_));subst ec_;clear en_))
            have A2:=am_ K8
            have L0:=am_ q5
            clear K8 A1 q5
            obtain⟨L1,t3,q6,d4,d5⟩:=Kd.R_elem s.out z72 (a:Int) t1 t2
            obtain rfl:=k72_openM q6
            have X2:wc.cell? ⟨O,(a:Int).toNat * 4,none⟩=some (.int .i64 ((rd_T72 d a).f0)):=d4 0 _ rfl
            have X3:wc.cell? ⟨O,(a:Int).toNat * 4 + 1,none⟩=some (.int .i64 ((rd_T72 d a).f1)):=d4 1 _ rfl
            have X4:wc.cell? ⟨O,(a:Int).toNat * 4 + 2,none⟩=some (.int .i64 ((rd_T72 d a).f2)):=d4 2 _ rfl
            have X5:wc.cell? ⟨O,(a:Int).toNat * 4 + 3,none⟩=some (.bool ((rd_T72 d a).f3)):=d4 3 _ rfl
            have D8:wc.frozen? ⟨O,(a:Int).toNat * 4,none⟩=false:=d5 0
            have D9:wc.frozen? ⟨O,(a:Int).toNat * 4 + 1,none⟩=false:=d5 1
            have E0:wc.frozen? ⟨O,(a:Int).toNat * 4 + 2,none⟩=false:=d5 2
            have E1:wc.frozen? ⟨O,(a:Int).toNat * 4 + 3,none⟩=false:=d5 3
            clear t3 d4 d5 q6;replace t1:=eq_true t1;replace t2:=eq_true t2
            have q7:=am_ (show Kd.R k72 72 wc w.heap.size (fun _=>True) (.slice (some ⟨O,0,none⟩) d.length h2) d from(qR_ s))
            obtain⟨L2,m0,q8,g8,m1⟩:=Kd.R_elem q7.out z72 (a:Int) (of_decide_eq_true qa_) (by have h_:(a:Int)<((d.length:Int):Int):=of_decide_eq_true qa_;first|exact h_|(have e_:=(Kd.R_reads' s.out).1;omega)|simpa using h_)
            obtain rfl:=k72_openM q8
            have m2:=Kd.R_seg q7.out (a:Int) (of_decide_eq_true qa_) (by have h_:(a:Int)<((d.length:Int):Int):=of_decide_eq_true qa_;first|exact h_|(have e_:=(Kd.R_reads' s.out).1;omega)|simpa using h_) (seg:=[.bool true]) (j:=3) m0 g8 (show 4≤4 from by decide) (x' :=(⟨(rd_T72 d a).f0,(rd_T72 d a).f1,(rd_T72 d a).f2,true⟩:S72)) (k72_mkM _ _ _ (⟨(rd_T72 d a).f0,(rd_T72 d a).f1,(rd_T72 d a).f2,true⟩:S72) ) (fun _ hk=>hk)
            have T0:=g8 3 _ rfl
            simp only[show(k72).sz=4 from rfl,Nat.mul_one,Nat.add_zero]at T0
            have o1:=m1 3
            simp only[show(k72).sz=4 from rfl,Nat.mul_one,Nat.add_zero]at o1
            clear m0 g8 m1 q8
            go_wp2_with (first|((with_reducible refine gate_store (t:=4) (p:=146) rfl ?_);refine store_event (t:=4) (p:=146) (v:= ?vo_w93) (w1:=(wc.setCell ⟨O,(a:Int).toNat * 4 + 3,none⟩ (.bool true))) ?hg ?ho ?hn ?hr ?_;(case ho=>rfl);(case hg=>rfl);(case hn=>rfl);(case hr=>first|(go_simp;done)|(go_simp;rfl));intro t4 hw;have hg:wc.grownBy t4 (some O):=(by rw[hw];exact m2.2);have hp_:Kd.R k72 72 t4 w.heap.size (fun _=>True) (.slice (some ⟨O,0,none⟩) d.length h2) S9:=(by rw[hw,t0.out];exact m2.1);clear m2;refine dn7_ (am_ (hp_)) (am_ (Kd.R_over' (v:=(.slice (some ⟨O,0,none⟩) d.length h2)) (qR_ F) (Kd.R_typed s.out) (by decide) hg)) (am_ (Kd.S_over' (v:=(.slice (some ⟨O,0,none⟩) d.length h2)) (qS_ J) (Kd.R_typed s.out) (by decide) hg)) (am_ (blk_grown (qk_ A) hg (Kd.R_ne s.out A.out (by decide)))) (am_ (blk_grown (qk_ x) hg (Kd.R_ne s.out x.out (by decide)))) (am_ (blk_grown (qk_ B) hg (Kd.R_ne s.out B.out (by decide)))) (am_ ((by rw[hw];exact below_set (HB.out) A2.out:Below w.heap.size w t4))) ?_;clear s F J A x B HB;intro s F J A x B HB;clear hg hw hp_))
            go_ret2
            exact⟨_,qr_,qR_ s,qB_⟩
           refine ig_ H ?_;clear H;intro H3 H
           refine ig_ H ?_;clear H;intro H4 H
           generalize m3:(d.set (a:Int).toNat (⟨(rd_T72 d a).f0,(rd_T72 d a).f1,y,(rd_T72 d a).f3⟩:S72))=L3 at H;replace H:=bh_ H;have t5:=am_ m3.symm;clear m3;have H' :=am_ H;clear H
           have t6:=dp_ a
           have t7:(a:Int)<((d.length:Int):Int):=of_decide_eq_true qa_
           obtain⟨T,X6,L4,L5,A3,L6,q9⟩:=Kd.R_form s.out (by omega)
           (first|cases L4|(injection L4 with ea_ en_ ec_;(first|subst ea_|(injection ea_ with ea_;subst ea_));subst ec_;clear en_))
           have A4:=am_ L5
           have L7:=am_ q9
           clear L5 A3 q9
           (first|simp only[add_plain]at J2|skip)
           (first|simp only[add_plain]at J3|skip)
           (first|simp only[add_plain]at J4|skip)
           (first|simp only[add_plain]at J5|skip)
           (first|simp only[add_plain]at J6|skip)
           (first|simp only[add_plain]at J7|skip)
           (first|simp only[add_plain]at J8|skip)
           (first|simp only[add_plain]at J9|skip)
           simp only[add_plain]at *
           obtain⟨L8,t8,r0,d6,d7⟩:=Kd.R_elem s.out z72 (a:Int) t6 t7
           obtain rfl:=k72_openM r0
           have X7:wc.cell? ⟨T,(a:Int).toNat * 4,none⟩=some (.int .i64 ((rd_T72 d a).f0)):=d6 0 _ rfl
           have X8:wc.cell? ⟨T,(a:Int).toNat * 4 + 1,none⟩=some (.int .i64 ((rd_T72 d a).f1)):=d6 1 _ rfl
           have X9:wc.cell? ⟨T,(a:Int).toNat * 4 + 2,none⟩=some (.int .i64 ((rd_T72 d a).f2)):=d6 2 _ rfl
           have Y0:wc.cell? ⟨T,(a:Int).toNat * 4 + 3,none⟩=some (.bool ((rd_T72 d a).f3)):=d6 3 _ rfl
           have E2:wc.frozen? ⟨T,(a:Int).toNat * 4,none⟩=false:=d7 0
           have E3:wc.frozen? ⟨T,(a:Int).toNat * 4 + 1,none⟩=false:=d7 1
           have E4:wc.frozen? ⟨T,(a:Int).toNat * 4 + 2,none⟩=false:=d7 2
           have E5:wc.frozen? ⟨T,(a:Int).toNat * 4 + 3,none⟩=false:=d7 3
           clear t8 d6 d7 r0;replace t6:=eq_true t6;replace t7:=eq_true t7
           have r1:=am_ (show Kd.R k72 72 wc w.heap.size (fun _=>True) (.slice (some ⟨T,0,none⟩) d.length h2) d from(qR_ s))
           obtain⟨L9,m4,r2,g9,m5⟩:=Kd.R_elem r1.out z72 (a:Int) (of_decide_eq_true qa_) (by have h_:(a:Int)<((d.length:Int):Int):=of_decide_eq_true qa_;first|exact h_|(have e_:=(Kd.R_reads' s.out).1;omega)|simpa using h_)
           obtain rfl:=k72_openM r2
           have m6:=Kd.R_seg r1.out (a:Int) (of_decide_eq_true qa_) (by have h_:(a:Int)<((d.length:Int):Int):=of_decide_eq_true qa_;first|exact h_|(have e_:=(Kd.R_reads' s.out).1;omega)|simpa using h_) (seg:=[.int .i64 y]) (j:=2) m4 g9 (show 3≤4 from by decide) (x' :=(⟨(rd_T72 d a).f0,(rd_T72 d a).f1,y,(rd_T72 d a).f3⟩:S72)) (k72_mkM _ _ _ (⟨(rd_T72 d a).f0,(rd_T72 d a).f1,y,(rd_T72 d a).f3⟩:S72) ) (fun _ hk=>hk)
           have T2:=g9 2 _ rfl
           simp only[show(k72).sz=4 from rfl,Nat.mul_one,Nat.add_zero]at T2
           have o2:=m5 2
           simp only[show(k72).sz=4 from rfl,Nat.mul_one,Nat.add_zero]at o2
           clear m4 g9 m5 r2
           go_wp2_with (first|((with_reducible refine gate_store (t:=3) (p:=142) rfl ?_);refine store_event (t:=3) (p:=142) (v:= ?vo_w88) (w1:=(wc.setCell ⟨T,(a:Int).toNat * 4 + 2,none⟩ (.int .i64 y))) ?hg ?ho ?hn ?hr ?_;(case ho=>rfl);(case hg=>rfl);(case hn=>rfl);(case hr=>first|(go_simp;done)|(go_simp;rfl));intro t9 hw;have hg:wc.grownBy t9 (some T):=(by rw[hw];exact m6.2);have hp_:Kd.R k72 72 t9 w.heap.size (fun _=>True) (.slice (some ⟨T,0,none⟩) d.length h2) L3:=(by rw[hw,t5.out];exact m6.1);clear m6;refine dn7_ (am_ (hp_)) (am_ (Kd.R_over' (v:=(.slice (some ⟨T,0,none⟩) d.length h2)) (qR_ F) (Kd.R_typed s.out) (by decide) hg)) (am_ (Kd.S_over' (v:=(.slice (some ⟨T,0,none⟩) d.length h2)) (qS_ J) (Kd.R_typed s.out) (by decide) hg)) (am_ (blk_grown (qk_ A) hg (Kd.R_ne s.out A.out (by decide)))) (am_ (blk_grown (qk_ x) hg (Kd.R_ne s.out x.out (by decide)))) (am_ (blk_grown (qk_ B) hg (Kd.R_ne s.out B.out (by decide)))) (am_ ((by rw[hw];exact below_set (HB.out) A4.out:Below w.heap.size w t9))) ?_;clear s F J A x B HB;intro s F J A x B HB;clear hg hw hp_))
           simp only[←g]
           go_roundg kj61
           case measure=>have:=e2.out;have:=f6.out;have:=HK3.out;have:=HK4.out;have:=D3.out;omega
           case rel=>exact⟨(L3),(wrap64 (a + 1)),qe_,H',⟨by have:=e2.out;have:=f6.out;have:=HK3.out;have:=HK4.out;have:=D3.out;omega⟩,⟨by simp only[g];(with_reducible repeat(first|apply Kd.R_alloc|apply Kd.R_drewN|apply Kd.R_drew));first|exact s.out|(have h_:=s.out;simp only[own_slice]at h_ ⊢;exact h_)⟩,⟨by(with_reducible repeat(first|apply Kd.R_alloc|apply Kd.R_drewN|apply Kd.R_drew));first|exact F.out|(have h_:=F.out;simp only[own_slice]at h_ ⊢;exact h_)⟩,⟨by(with_reducible repeat(first|apply Kd.S_alloc|apply Kd.S_drewN|apply Kd.S_drew));first|exact J.out|(have h_:=J.out;simp only[own_slice]at h_ ⊢;exact h_)⟩,⟨by exact qf_ A⟩,⟨by exact qf_ x⟩,⟨by exact qf_ B⟩,⟨qB_⟩⟩
end Go.Proofs.Ytbkklafkoegdpaa.QFnTakes

import Derived.Test.YtbkklafkoegdpaaQFnTakesx6
namespace Go.Proofs.Ytbkklafkoegdpaa.QFnTakes
open Go.RowKit Go.Proofs.YtbkklafkoegdpaaW.PrintWords Go.Proofs.YtbkklafkoegdpaaW.PrintLast Go.Proofs.YtbkklafkoegdpaaW.PrintMore
set_option maxHeartbeats 8000000
set_option maxRecDepth 100000
set_option linter.unusedVariables false
set_option linter.unusedSimpArgs false
mutual
def impl_Web_look.j0:Nat→Int→List Int→Int→Int→List (S72)→Option (Int × Int × Bool × (List (S72)))
  |0,_,_,_,_,_=>none
  |k + 1,x2,x8,x9,x453000,x453001=>impl_Web_look.l0 k x2 x8 x9 (mn (wrap64 (x2 + 1)) 4) (x453001.length:Int) 0 x453000 x453001
def impl_Web_look.l0:Nat→Int→List Int→Int→Int→Int→Int→Int→List (S72)→Option (Int × Int × Bool × (List (S72)))
  |0,_,_,_,_,_,_,_,_=>none
  |k + 1,x2,x8,x9,x10,x52,x53,x453000,x453001=>if x53<x52 then (if 0≤x53 then (if x53<(x453001.length:Int) then (if (rd_T72 x453001 x53).f3=true then (if ((rd_T72 x453001 x53).f2)=x2 then (if 0≤((rd_T72 x453001 x53).f0) then (if ((rd_T72 x453001 x53).f0)<(x8.length:Int) then (if (rd x8 ((rd_T72 x453001 x53).f0))=x9 then (impl_Web_look.l0 k x2 x8 x9 x10 x52 (wrap64 (x53 + 1)) x453000 (x453001.set (x53:Int).toNat (⟨(rd_T72 x453001 x53).f0,(rd_T72 x453001 x53).f1,x10,(rd_T72 x453001 x53).f3⟩:S72))) else (impl_Web_look.l0 k x2 x8 x9 x10 x52 (wrap64 (x53 + 1)) x453000 x453001)) else (none)) else (none)) else (impl_Web_look.l0 k x2 x8 x9 x10 x52 (wrap64 (x53 + 1)) x453000 x453001)) else (impl_Web_look.l0 k x2 x8 x9 x10 x52 (wrap64 (x53 + 1)) x453000 x453001)) else (none)) else (none)) else (impl_Web_look.l1 k x2 x8 x9 x10 (x453001.length:Int) 0 x453000 x453001)
def impl_Web_look.l1:Nat→Int→List Int→Int→Int→Int→Int→Int→List (S72)→Option (Int × Int × Bool × (List (S72)))
  |0,_,_,_,_,_,_,_,_=>none
  |k + 1,x2,x8,x9,x10,x94,x95,x453000,x453001=>if x95<x94 then (if 0≤x95 then (if x95<(x453001.length:Int) then (if (rd_T72 x453001 x95).f3=true then (impl_Web_look.l1 k x2 x8 x9 x10 x94 (wrap64 (x95 + 1)) x453000 x453001) else (if ((rd_T72 x453001 x95).f2)=x2 then (if 0≤((rd_T72 x453001 x95).f0) then (if ((rd_T72 x453001 x95).f0)<(x8.length:Int) then (if (rd x8 ((rd_T72 x453001 x95).f0))=x9 then (if 0≤((rd_T72 x453001 x95).f1) then (if ((rd_T72 x453001 x95).f1)<(x8.length:Int) then (if (rd x8 ((rd_T72 x453001 x95).f0))=(rd x8 ((rd_T72 x453001 x95).f1)) then (impl_Web_look.l1 k x2 x8 x9 x10 x94 (wrap64 (x95 + 1)) x453000 (x453001.set (x95:Int).toNat (⟨(rd_T72 x453001 x95).f0,(rd_T72 x453001 x95).f1,x10,(rd_T72 x453001 x95).f3⟩:S72))) else ((some (x453001.set (x95:Int).toNat (⟨(rd_T72 x453001 x95).f0,(rd_T72 x453001 x95).f1,(rd_T72 x453001 x95).f2,true⟩:S72):List (S72))).bind fun y478=>(some ((rd_T72 y478 x95).f0,(rd_T72 y478 x95).f1,true,y478)))) else (none)) else (none)) else (if 0≤((rd_T72 x453001 x95).f1) then (if ((rd_T72 x453001 x95).f1)<(x8.length:Int) then (if (rd x8 ((rd_T72 x453001 x95).f1))=x9 then (if (rd x8 ((rd_T72 x453001 x95).f0))=(rd x8 ((rd_T72 x453001 x95).f1)) then (impl_Web_look.l1 k x2 x8 x9 x10 x94 (wrap64 (x95 + 1)) x453000 (x453001.set (x95:Int).toNat (⟨(rd_T72 x453001 x95).f0,(rd_T72 x453001 x95).f1,x10,(rd_T72 x453001 x95).f3⟩:S72))) else ((some (x453001.set (x95:Int).toNat (⟨(rd_T72 x453001 x95).f0,(rd_T72 x453001 x95).f1,(rd_T72 x453001 x95).f2,true⟩:S72):List (S72))).bind fun y488=>(some ((rd_T72 y488 x95).f0,(rd_T72 y488 x95).f1,true,y488)))) else (impl_Web_look.l1 k x2 x8 x9 x10 x94 (wrap64 (x95 + 1)) x453000 x453001)) else (none)) else (none))) else (none)) else (none)) else (impl_Web_look.l1 k x2 x8 x9 x10 x94 (wrap64 (x95 + 1)) x453000 x453001))) else (none)) else (none)) else (some (0,0,false,x453001))
end
def impl_Web_look.f (k:Nat) (a0_0:Int) (l0_1:List (S72)) (a1_0:Int) (a1_1:Int) (a2:Int):Option (Int × Int × Bool × (List (S72))):=(impl_labelsAt.f k a0_0 l0_1 a2).bind fun t455=>(if 0≤a1_0 then (if a1_0<(t455.length:Int) then (if 0≤a1_1 then (if a1_1<(t455.length:Int) then ((impl_sizes.f k t455 (rd t455 a1_1)).bind fun t460=>((impl_sizes.f k t455 (rd t455 a1_0)).bind fun t462=>(if t460<t462 then (impl_Web_look.j0 k a2 t455 (rd t455 a1_1) a0_0 l0_1) else (impl_Web_look.j0 k a2 t455 (rd t455 a1_0) a0_0 l0_1)))) else (none)) else (none)) else (none)) else (none))
def impl_Web_look.T3:Bool × List (List Nat × List Nat):=(true,[([],[]),([],[]),([],[]),([2],[2]),([1,3],[1,3]),([4],[4]),([0,5],[0,5]),([],[]),([],[]),([],[]),([9],[9]),([8,10],[8,10]),([11],[11]),([7,12,6],[7,12]),([6,13],[6,13])])
def impl_Web_look.B3:List Nat:=[0,0,0,4,14,30,63,0,0,0,512,1792,3840,8191,16383]
theorem impl_Web_look.tab3:rtab .any (opsOf Try.f95 3)=impl_Web_look.T3:=by kernel_rfl
theorem impl_Web_look.bits3:waitsOk impl_Web_look.T3.2 impl_Web_look.B3=true:=by kernel_rfl
def impl_Web_look.T18:Bool × List (List Nat × List Nat):=(true,[([],[]),([],[]),([1],[1]),([2],[2]),([3],[3]),([0,4],[0,4]),([5],[5]),([],[]),([],[]),([8],[8]),([9],[9]),([10],[10]),([7,11],[7,11]),([12],[12]),([6,13],[6,13])])
def impl_Web_look.B18:List Nat:=[0,0,2,6,14,31,63,0,0,256,768,1792,3968,8064,16383]
theorem impl_Web_look.tab18:rtab .any (opsOf Try.f95 18)=impl_Web_look.T18:=by kernel_rfl
theorem impl_Web_look.bits18:waitsOk impl_Web_look.T18.2 impl_Web_look.B18=true:=by kernel_rfl
def impl_Web_look.T20:Bool × List (List Nat × List Nat):=(true,[([],[]),([0],[0]),([1],[1]),([2],[2]),([],[]),([4],[4]),([5],[5]),([6],[6]),([3,7],[3,7]),([8,0,1,2,3,4,5,6,7,8],[8]),([9,0,1,2,3,4,5,6,7,8,9],[])])
def impl_Web_look.B20:List Nat:=[0,1,3,7,0,16,48,112,255,511,1023]
theorem impl_Web_look.tab20:rtab .any (opsOf Try.f95 20)=impl_Web_look.T20:=by kernel_rfl
theorem impl_Web_look.bits20:waitsOk impl_Web_look.T20.2 impl_Web_look.B20=true:=by kernel_rfl
theorem impl_Web_look.calls (k:Nat) (a3:Int) (o:Nat→Prop) (u9000_:Value) (a1:List (S72)) (J:Int) (L:Int) (h1:Int) (I4:Int) (I5:Int) (I6:Bool) (I7:List (S72)) (J7:Nat) (a4 w:World) (hblk:w.heap[J7]? =some (.cells #[.int .i64 a3,u9000_] 29 (0,0))) (hB:Below a4.heap.size a4 w) (E6:Kd.R k72 72 w a4.heap.size o u9000_ a1) (h:impl_Web_look.f k a3 a1 J L h1=some (I4,I5,I6,I7)):
  Calls Try.prog 95 #[.pointer (some ⟨J7,0,none⟩),.agg #[.int .i64 J,.int .i64 L],.int .i64 h1] w fun e w' =>e= .returned (.tuple #[.agg #[.int .i64 I4,.int .i64 I5],.bool I6])∧Kd.R k72 72 w' a4.heap.size (fun k_=>(o k_∨w.heap.size≤k_)) u9000_ I7∧Below a4.heap.size a4 w' ∧Kept w w' (fun k_=>o k_):=by
 have hu29:=Try.underlying29;have hu43:=Try.underlying43
 have HO0_1:=am_ (show Kd.R k72 72 w a4.heap.size (fun k_=>(o k_∨w.heap.size≤k_)) u9000_ a1 from Kd.R_mono E6 (fun k_ hk=>(.inl hk)))
 have HK:=am_ (Kept.refl w (fun k_=>o k_))
 have HW0:=am_ hB.size
 have HB:=am_ hB
 have C:=am_ hblk
 clear hblk hB
 have H:((impl_labelsAt.f k a3 a1 h1).bind fun B=>(if 0≤J then (if J<(B.length:Int) then (if 0≤L then (if L<(B.length:Int) then ((impl_sizes.f k B (rd B L)).bind fun Q2=>((impl_sizes.f k B (rd B J)).bind fun Q3=>(if Q2<Q3 then (impl_Web_look.j0 k h1 B (rd B L) a3 a1) else (impl_Web_look.j0 k h1 B (rd B J) a3 a1)))) else (none)) else (none)) else (none)) else (none)))=some (I4,I5,I6,I7):=h
 clear h
 obtain⟨B,Z0,H⟩:=bs_ H
 refine ig_ H ?_;clear H;intro q1 H
 refine ig_ H ?_;clear H;intro q2 H
 refine ig_ H ?_;clear H;intro q3 H
 refine ig_ H ?_;clear H;intro q4 H
 obtain⟨Q2,Z1,H⟩:=bs_ H
 obtain⟨Q3,Q4,H⟩:=bs_ H
 have Q5:=am_ H
 clear H
 obtain⟨E7,h0,Z2⟩:=Kd.R_slice HO0_1.out
 subst Z2
 go_enter Try.func95,Try.ntmps95
 try go_wp2_with (first|((with_reducible refine gd_ 4 ?_);refine by_ 4 (cs:= #[.int .i64 J,.int .i64 L]) (t:=43) ?_;intro E8 hg Z3 G hb;have e5:=am_ ((by rw[hg];exact(by first|exact HK.out.1|exact(show Kept w _ (fun k_=>o k_) from qK_).1):w.heap.size≤E8));have Q6:=am_ ((qs_:a4.heap.size≤E8));obtain⟨n1,Z4⟩:=qn_ C hg;replace HO0_1:=kb_ HO0_1 hb;replace C:=qbl_ C hb;replace HK:=am_ (Kept.below (S:=(fun k_=>o k_)) (qK_) hb);replace HB:=hs_ hb;clear hb hg)|((with_reducible refine gd_ 6 ?_);refine by_ 6 (cs:= #[.int .i64 0,.int .i64 0]) (t:=43) ?_;intro U hg Z5 D hb;have e7:=am_ ((by rw[hg];exact(by first|exact HK.out.1|exact(show Kept w _ (fun k_=>o k_) from qK_).1):w.heap.size≤U));have Q7:=am_ ((qs_:a4.heap.size≤U));obtain⟨j5,J8⟩:=qn_ C hg;obtain⟨I8,J9⟩:=qn_ G hg;replace HO0_1:=kb_ HO0_1 hb;replace C:=qbl_ C hb;replace G:=qbl_ G hb;replace HK:=am_ (Kept.below (S:=(fun k_=>o k_)) (qK_) hb);replace HB:=hs_ hb;clear hb hg;obtain⟨be,bf⟩:=nn_ n1;obtain⟨bg,bh⟩:=nn_ j5;obtain⟨Q8,Q9,R0,R1⟩:=bc2_ C)|((with_reducible refine gc_ 67 ?_);refine gl_ (some 19) Try.func67 #[.agg #[.int .i64 a3,.slice E7 a1.length h0],.int .i64 h1] ?_;(with_reducible refine(impl_labelsAt.calls k a3 _ _ a1 h1 B _ ?_ ?_ Z0.out).mono ?_);exact qD_ (Kd.R_reads' HO0_1.out).2.2;exact(Kd.R_reads' HO0_1.out).2.1;rintro e R2 ⟨bi,rfl,ho0,hb⟩;refine⟨_,rfl,?_⟩;have n2:=am_ (Kd.R_lower (Kd.R_newM (M:=fun k_=>(o k_∨w.heap.size≤k_)) ho0 (by first|exact HK.out.1|exact(show Kept w _ (fun k_=>o k_) from qK_).1) (fun k_ h_=> .inr h_)) (below_size qB_));replace HO0_1:=kb_ HO0_1 hb;replace C:=qbl_ C hb;replace G:=qbl_ G hb;replace D:=qbl_ D hb;replace HK:=am_ (Kept.below (S:=(fun k_=>o k_)) (qK_) hb);replace HB:=hs_ hb;clear hb;(try clear hb2);clear ho0;obtain⟨bj,bk⟩:=nn_ I8;obtain⟨R3,R4,R5,R6⟩:=bc2_ G;obtain⟨bl,K0,Z6⟩:=Kd.R_slice n2.out;subst Z6;have n3:=dt_ J;have n4:=du_ J B.length;obtain⟨y,K1,R7⟩:=Kd.at_int (Kd.R_reads' n2.out).2.2 J (ot_ n3) (ot_ n4);cases K1;))
 replace HO0_1:=rd_ HO0_1;replace n2:=rd_ n2;replace C:=bd_ C;replace G:=bd_ G;replace D:=bd_ D;replace HK:=am_ (Kept.drew HK.out);replace HB:=hd_ HB
 have n5:=dt_ L
 have n6:=du_ L B.length
 obtain⟨E9,K2,K3⟩:=Kd.at_int (Kd.R_reads' n2.out).2.2 L (ot_ n5) (ot_ n6)
 obtain rfl:y=E9:=(by injection K2)
 have n7:=dt_ J
 have n8:=du_ J B.length
 obtain⟨F0,K4,K5⟩:=Kd.at_int (Kd.R_reads' n2.out).2.2 J (ot_ n7) (ot_ n8)
 obtain rfl:y=F0:=(by injection K4)
 refine start_ (n:=15) (S:=fun w' =>w'.cell? ⟨E8,0,none⟩=some (.int .i64 J)∧w'.cell? ⟨E8,1,none⟩=some (.int .i64 L)∧w'.cell? (y.add (L).toNat)=some (.int .i64 (rd B L))∧w'.cell? (y.add (J).toNat)=some (.int .i64 (rd B J))) (ds:=[]) (bm 15 0) (by kernel_rfl) rfl (by kernel_rfl) ⟨bl_ G 0,bl_ G 1,K3,K5⟩ (fun hHeld=> ?_);refine with_tabW impl_Web_look.tab3 impl_Web_look.bits3 (fun HT_ HW_=> ?_)
 generalize R2.drew=Z7 at HO0_1 n2 C G D HK HB K3 K5 hHeld ⊢
 refine pz_ 0 25 15 1 ?_;refine pz_ 1 26 15 3 ?_;refine pz_ 2 27 15 7 ?_;refine pz_ 7 32 15 135 ?_;refine pz_ 8 33 15 391 ?_;refine pz_ 9 34 15 903 ?_;refine tz4_ 3 28 15 911 ?_;refine pz_ 4 29 15 927 ?_;refine tz4_ 5 30 15 959 ?_;refine tz4_ 10 35 15 1983 ?_;refine pz_ 11 36 15 4031 ?_;refine tz4_ 12 37 15 8127 ?_
 refine o1_ 6 (some 31) 15 8191 (fun K hK=> ?_)
 refine gs_ Try.func114 #[.slice (some y) B.length K0,.int .i64 (rd B L)] ?_
 with_reducible refine(impl_sizes.calls k _ _ B (rd B L) Q2 _ ?side1 ?side2 Z1.out).mono ?_
 (case side1=>exact qD_ (Kd.R_reads' n2.out).2.2)
 (case side2=>exact(Kd.R_reads' n2.out).2.1)
 rintro e w' ⟨rfl,⟨nd,rfl⟩⟩
 refine⟨_,rfl,?_⟩
 refine hK.out _ _ ⟨bl_ G 0,bl_ G 1,hHeld.2.2.1,hHeld.2.2.2⟩ (fun hHeld=> ?_)
 clear hK K
 refine nm_ 31 ?_
 refine o1_ 13 (some 38) 15 16383 (fun K hK=> ?_)
 refine gs_ Try.func114 #[.slice (some y) B.length K0,.int .i64 (rd B J)] ?_
 with_reducible refine(impl_sizes.calls k _ _ B (rd B J) Q3 _ ?side1 ?side2 Q4.out).mono ?_
 (case side1=>exact qD_ (Kd.R_reads' n2.out).2.2)
 (case side2=>exact(Kd.R_reads' n2.out).2.1)
 rintro e w' ⟨rfl,⟨nd,rfl⟩⟩
 refine⟨_,rfl,?_⟩
 refine hK.out _ _ ⟨bl_ G 0,bl_ G 1,hHeld.2.2.1,hHeld.2.2.2⟩ (fun hHeld=> ?_)
 clear hK K
 refine nm_ 38 ?_
 refine pz_ 14 39 15 32767 ?_
 refine done_ (done_of HT_.out (by kernel_rfl)) ?_
 go_upto_if 39 with (fail)
 go_cut [9] (fun v9 wc=>∃ (kq:Nat) (I:Int),v9= .int .i64 I∧Aside0 (impl_Web_look.j0 kq h1 B I a3 a1=some (I4,I5,I6,I7))∧Aside0 (kq≤k)∧Aside0 (Kd.R (Kd.int .i64) 3 wc a4.heap.size (fun k_=>(o k_∨w.heap.size≤k_)) (.slice (some y) B.length K0) B)∧Aside0 (Kd.R k72 72 wc a4.heap.size (fun k_=>(o k_∨w.heap.size≤k_)) (.slice E7 a1.length h0) a1)∧Aside0 (wc.heap[J7]? =some (.cells #[.int .i64 a3,(.slice E7 a1.length h0)] 29 (0,0)))∧Aside0 (wc.heap[E8]? =some (.cells #[.int .i64 J,.int .i64 L] 43 (0,0)))∧Aside0 (wc.heap[U]? =some (.cells #[.int .i64 0,.int .i64 0] 43 (0,0)))∧Aside0 (Kept w wc (fun k_=>o k_))∧Aside0 (Below a4.heap.size a4 wc))
 case first=>
  have H:=Q5.out;clear Q5
  refine ib_ H ?_ ?_<;>clear H<;>intro c7 H
  ·(first|rw[c7]|(simp only[i64_w,i32_w];rw[c7])|skip)
   have H' :=am_ H;clear H
   go_wp2
   go_meet
   case rel=>exact⟨_,(rd B J),qe_,H',⟨qo_⟩,⟨by(with_reducible repeat(first|apply Kd.R_alloc|apply Kd.R_drewN|apply Kd.R_drew));exact Kd.R_mono n2.out (fun _ hk=>hk.1)⟩,⟨ra_ HO0_1⟩,⟨qk_ C⟩,⟨qk_ G⟩,⟨qk_ D⟩,⟨qK_⟩,⟨qB_⟩⟩
  (first|rw[c7]|(simp only[i64_w,i32_w];rw[c7])|skip)
  have H' :=am_ H;clear H;obtain⟨bn,bo⟩:=nn_ Z4;obtain⟨bp,bq⟩:=nn_ I8
  obtain⟨R8,R9,S0,S1⟩:=bc2_ G
  have n9:=dt_ L
  have o0:=du_ L B.length
  obtain⟨F1,K6,S2⟩:=Kd.at_int (Kd.R_reads' n2.out).2.2 L (ot_ n9) (ot_ o0)
  obtain rfl:y=F1:=(by injection K6)
  go_wp2
  go_meet
  case rel=>exact⟨_,(rd B L),qe_,H',⟨qo_⟩,⟨by(with_reducible repeat(first|apply Kd.R_alloc|apply Kd.R_drewN|apply Kd.R_drew));exact Kd.R_mono n2.out (fun _ hk=>hk.1)⟩,⟨ra_ HO0_1⟩,⟨qk_ C⟩,⟨qk_ G⟩,⟨qk_ D⟩,⟨qK_⟩,⟨qB_⟩⟩
 case rest=>
  clear Q5 q1 q2 q3 q4 Q8 Q9 R3 R4 R0 R1 R5 R6 R7 K3 K5 n3 n5 n7 n4 n6 n8
  obtain⟨kq,I,rfl,HA,j6,E,q,C,G,D,HK,HB⟩:=hcut
  cases kq with
  |zero=>exact absurd HA.out (by simp [impl_Web_look.j0])
  |succ kj10=>
   have H:=HA.out;clear HA
   simp only[impl_Web_look.j0]at H
   obtain⟨V,d9⟩:∃ j_:Int,(mn (wrap64 (h1 + 1)) 4)=j_:=⟨_,rfl⟩
   first|rw[d9]at H|simp only[d9]at H
   have hji28_:(if 4<(wrap64 (h1 + 1)) then 4 else (wrap64 (h1 + 1)))=V:=d9
   have H' :=am_ H;clear H;obtain⟨br,bs⟩:=nn_ n1;obtain⟨bt,bu⟩:=nn_ j5
   obtain⟨W3,W4,W5,W6⟩:=bc2_ C
   go_wp2
   go_loopg [53] kj10 (fun kq v53 w' =>∃ (g:Int) (F:List (S72)),v53= .int .i64 g∧Aside0 (impl_Web_look.l0 kq h1 B I V (a1.length:Int) g a3 F=some (I4,I5,I6,I7))∧Aside0 (kq≤kj10)∧Aside0 (Kd.R (Kd.int .i64) 3 w' a4.heap.size (fun k_=>(o k_∨w.heap.size≤k_)) (.slice (some y) B.length K0) B)∧Aside0 (Kd.R k72 72 w' a4.heap.size (fun k_=>(o k_∨w.heap.size≤k_)) (.slice E7 a1.length h0) F)∧Aside0 (w'.heap[J7]? =some (.cells #[.int .i64 a3,(.slice E7 a1.length h0)] 29 (0,0)))∧Aside0 (w'.heap[E8]? =some (.cells #[.int .i64 J,.int .i64 L] 43 (0,0)))∧Aside0 (w'.heap[U]? =some (.cells #[.int .i64 0,.int .i64 0] 43 (0,0)))∧Aside0 (Kept w w' (fun k_=>o k_))∧Aside0 (Below a4.heap.size a4 w'))
   case atStart=>exact⟨(0),(a1),qe_,H',⟨Nat.le_refl _⟩,⟨ra_ E⟩,⟨ra_ q⟩,⟨qk_ C⟩,⟨qk_ G⟩,⟨qk_ D⟩,⟨qK_⟩,⟨qB_⟩⟩
   case round=>
    clear H' W3 W4 W5 W6
    obtain⟨g,F,rfl,HA,HK2,E,q,C,G,D,HK,HB⟩:=hrel
    have d:=(Kd.R_reads' q.out).1
    rw[d]at q
    simp only[d]
    simp only[d]at C
    cases gk with
    |zero=>exact absurd HA.out (by simp [impl_Web_look.l0])
    |succ I9=>
     have H:=HA.out;clear HA
     simp only[impl_Web_look.l0]at H
     refine ic_ H ?_ ?_<;>clear H<;>intro q5 H<;>simp only[d]at q5
     ·refine ig_ H ?_;clear H;intro F2 H
      refine ig_ H ?_;clear H;intro F3 H
      generalize q6:((rd_T72 F g).f3)=W8 at H;have N:=am_ q6.symm;clear q6
      refine id_ H ?_ ?_<;>clear H<;>rintro rfl H
      ·have H' :=am_ H;clear H;obtain⟨bv,bw⟩:=nn_ n1;obtain⟨bx,bz⟩:=nn_ j5
       obtain⟨Z9,aa,ab,ac⟩:=bc2_ C
       have b1:=dp_ g
       have b2:(g:Int)<((F.length:Int):Int):=of_decide_eq_true qa_
       obtain⟨m,S5,q7,q8,e8,q9,b3⟩:=Kd.R_form q.out (by omega)
       (first|cases q7|(injection q7 with ea_ en_ ec_;(first|subst ea_|(injection ea_ with ea_;subst ea_));subst ec_;clear en_))
       have o1:=am_ q8
       have r0:=am_ b3
       clear q8 e8 b3
       have i0:=am_ (show(o m∨w.heap.size≤m) from(q.out.1 _ rfl))
       obtain⟨r1,c8,b4,z,A⟩:=Kd.R_elem q.out z72 (g:Int) b1 b2
       obtain rfl:=k72_openM b4
       have O0:wr.cell? ⟨m,(g:Int).toNat * 4,none⟩=some (.int .i64 ((rd_T72 F g).f0)):=z 0 _ rfl
       have O1:wr.cell? ⟨m,(g:Int).toNat * 4 + 1,none⟩=some (.int .i64 ((rd_T72 F g).f1)):=z 1 _ rfl
       have O2:wr.cell? ⟨m,(g:Int).toNat * 4 + 2,none⟩=some (.int .i64 ((rd_T72 F g).f2)):=z 2 _ rfl
       have D1:wr.cell? ⟨m,(g:Int).toNat * 4 + 3,none⟩=some (.bool ((rd_T72 F g).f3)):=z 3 _ rfl
       rw[←N.out]at D1
       have i1:wr.frozen? ⟨m,(g:Int).toNat * 4,none⟩=false:=A 0
       have i2:wr.frozen? ⟨m,(g:Int).toNat * 4 + 1,none⟩=false:=A 1
       have i3:wr.frozen? ⟨m,(g:Int).toNat * 4 + 2,none⟩=false:=A 2
       have i4:wr.frozen? ⟨m,(g:Int).toNat * 4 + 3,none⟩=false:=A 3
       clear c8 z A b4;replace b1:=eq_true b1;replace b2:=eq_true b2
       have e3:=dt_ g
       have e4:=du_ g F.length
       obtain⟨c9,e9,k6,k7,k8,h2⟩:=at_T72 (Kd.R_reads' q.out).2.2 g (ot_ e3) (ot_ e4)
       rw[←N.out]at h2
       obtain rfl:(⟨m,0,none⟩:Addr)=c9:=(by injection e9)
       simp only[add_plain]at k6 k7 k8 h2
       simp only[add_plain]at *
       go_wp2
       simp only[←d]
       go_roundg I9
       case measure=>have:=j6.out;have:=HK2.out;omega
       case rel=>exact⟨(wrap64 (g + 1)),(F),qe_,H',⟨by have:=j6.out;have:=HK2.out;omega⟩,⟨by(with_reducible repeat(first|apply Kd.R_alloc|apply Kd.R_drewN|apply Kd.R_drew));first|exact E.out|(have h_:=E.out;simp only[own_slice]at h_ ⊢;exact h_)⟩,⟨by simp only[d];(with_reducible repeat(first|apply Kd.R_alloc|apply Kd.R_drewN|apply Kd.R_drew));first|exact q.out|(have h_:=q.out;simp only[own_slice]at h_ ⊢;exact h_)⟩,⟨by simp only[d];exact qf_ C⟩,⟨by exact qf_ G⟩,⟨by exact qf_ D⟩,⟨qK_⟩,⟨qB_⟩⟩
      refine jb_ H ?_ ?_<;>clear H<;>intro p2 H
      ·have r2:(((rd_T72 F g).f2)==h1)=false:=beq_eq_false_iff_ne.mpr p2
       have r3:(((rd_T72 F g).f2) != h1)=true:=bne_iff_ne.mpr p2
       have H' :=am_ H;clear H;obtain⟨bA,bB⟩:=nn_ n1;obtain⟨bC,bD⟩:=nn_ j5
       obtain⟨ad,ae,af,ag⟩:=bc2_ C
       have b1:=dp_ g
       have b2:(g:Int)<((F.length:Int):Int):=of_decide_eq_true qa_
       obtain⟨m,S5,q7,q8,e8,q9,b3⟩:=Kd.R_form q.out (by omega)
       (first|cases q7|(injection q7 with ea_ en_ ec_;(first|subst ea_|(injection ea_ with ea_;subst ea_));subst ec_;clear en_))
       have o1:=am_ q8
       have r0:=am_ b3
       clear q8 e8 b3
       have i0:=am_ (show(o m∨w.heap.size≤m) from(q.out.1 _ rfl))
       obtain⟨r1,c8,b4,z,A⟩:=Kd.R_elem q.out z72 (g:Int) b1 b2
       obtain rfl:=k72_openM b4
       have O0:wr.cell? ⟨m,(g:Int).toNat * 4,none⟩=some (.int .i64 ((rd_T72 F g).f0)):=z 0 _ rfl
       have O1:wr.cell? ⟨m,(g:Int).toNat * 4 + 1,none⟩=some (.int .i64 ((rd_T72 F g).f1)):=z 1 _ rfl
       have O2:wr.cell? ⟨m,(g:Int).toNat * 4 + 2,none⟩=some (.int .i64 ((rd_T72 F g).f2)):=z 2 _ rfl
       have D1:wr.cell? ⟨m,(g:Int).toNat * 4 + 3,none⟩=some (.bool ((rd_T72 F g).f3)):=z 3 _ rfl
       rw[←N.out]at D1
       have i1:wr.frozen? ⟨m,(g:Int).toNat * 4,none⟩=false:=A 0
       have i2:wr.frozen? ⟨m,(g:Int).toNat * 4 + 1,none⟩=false:=A 1
       have i3:wr.frozen? ⟨m,(g:Int).toNat * 4 + 2,none⟩=false:=A 2
       have i4:wr.frozen? ⟨m,(g:Int).toNat * 4 + 3,none⟩=false:=A 3
       clear c8 z A b4;replace b1:=eq_true b1;replace b2:=eq_true b2
       have e3:=dt_ g
       have e4:=du_ g F.length
       obtain⟨c9,e9,k6,k7,k8,h2⟩:=at_T72 (Kd.R_reads' q.out).2.2 g (ot_ e3) (ot_ e4)
       rw[←N.out]at h2
       obtain rfl:(⟨m,0,none⟩:Addr)=c9:=(by injection e9)
       simp only[add_plain]at k6 k7 k8 h2
       simp only[add_plain]at *
       have h3:=dt_ g
       have h4:=du_ g F.length
       obtain⟨f4,j7,p8,p9,q0,k9⟩:=at_T72 (Kd.R_reads' q.out).2.2 g (ot_ h3) (ot_ h4)
       rw[←N.out]at k9
       obtain rfl:(⟨m,0,none⟩:Addr)=f4:=(by injection j7)
       simp only[add_plain]at p8 p9 q0 k9
       simp only[add_plain]at *
       go_wp2
       simp only[←d]
       go_roundg I9
       case measure=>have:=j6.out;have:=HK2.out;omega
       case rel=>exact⟨(wrap64 (g + 1)),(F),qe_,H',⟨by have:=j6.out;have:=HK2.out;omega⟩,⟨by(with_reducible repeat(first|apply Kd.R_alloc|apply Kd.R_drewN|apply Kd.R_drew));first|exact E.out|(have h_:=E.out;simp only[own_slice]at h_ ⊢;exact h_)⟩,⟨by simp only[d];(with_reducible repeat(first|apply Kd.R_alloc|apply Kd.R_drewN|apply Kd.R_drew));first|exact q.out|(have h_:=q.out;simp only[own_slice]at h_ ⊢;exact h_)⟩,⟨by simp only[d];exact qf_ C⟩,⟨by exact qf_ G⟩,⟨by exact qf_ D⟩,⟨qK_⟩,⟨qB_⟩⟩
      have r2:(((rd_T72 F g).f2)==h1)=true:=beq_iff_eq.mpr p2
      have r3:(((rd_T72 F g).f2) != h1)=false:=bne_eq_false_iff_eq.mpr p2
      clear p2
      refine ig_ H ?_;clear H;intro F4 H
      refine ig_ H ?_;clear H;intro F5 H
      refine jb_ H ?_ ?_<;>clear H<;>intro p3 H
      ·have r4:((rd B ((rd_T72 F g).f0))==I)=false:=beq_eq_false_iff_ne.mpr p3
       have r5:((rd B ((rd_T72 F g).f0)) != I)=true:=bne_iff_ne.mpr p3
       have H' :=am_ H;clear H;obtain⟨bE,bF⟩:=nn_ n1;obtain⟨bG,bH⟩:=nn_ j5
       obtain⟨ah,ai,aj,ak⟩:=bc2_ C
       have b1:=dp_ g
       have b2:(g:Int)<((F.length:Int):Int):=of_decide_eq_true qa_
       obtain⟨m,S5,q7,q8,e8,q9,b3⟩:=Kd.R_form q.out (by omega)
       (first|cases q7|(injection q7 with ea_ en_ ec_;(first|subst ea_|(injection ea_ with ea_;subst ea_));subst ec_;clear en_))
       have o1:=am_ q8
       have r0:=am_ b3
       clear q8 e8 b3
       have i0:=am_ (show(o m∨w.heap.size≤m) from(q.out.1 _ rfl))
       obtain⟨r1,c8,b4,z,A⟩:=Kd.R_elem q.out z72 (g:Int) b1 b2
       obtain rfl:=k72_openM b4
       have O0:wr.cell? ⟨m,(g:Int).toNat * 4,none⟩=some (.int .i64 ((rd_T72 F g).f0)):=z 0 _ rfl
       have O1:wr.cell? ⟨m,(g:Int).toNat * 4 + 1,none⟩=some (.int .i64 ((rd_T72 F g).f1)):=z 1 _ rfl
       have O2:wr.cell? ⟨m,(g:Int).toNat * 4 + 2,none⟩=some (.int .i64 ((rd_T72 F g).f2)):=z 2 _ rfl
       have D1:wr.cell? ⟨m,(g:Int).toNat * 4 + 3,none⟩=some (.bool ((rd_T72 F g).f3)):=z 3 _ rfl
       rw[←N.out]at D1
       have i1:wr.frozen? ⟨m,(g:Int).toNat * 4,none⟩=false:=A 0
       have i2:wr.frozen? ⟨m,(g:Int).toNat * 4 + 1,none⟩=false:=A 1
       have i3:wr.frozen? ⟨m,(g:Int).toNat * 4 + 2,none⟩=false:=A 2
       have i4:wr.frozen? ⟨m,(g:Int).toNat * 4 + 3,none⟩=false:=A 3
       clear c8 z A b4;replace b1:=eq_true b1;replace b2:=eq_true b2
       have e3:=dt_ g
       have e4:=du_ g F.length
       obtain⟨c9,e9,k6,k7,k8,h2⟩:=at_T72 (Kd.R_reads' q.out).2.2 g (ot_ e3) (ot_ e4)
       rw[←N.out]at h2
       obtain rfl:(⟨m,0,none⟩:Addr)=c9:=(by injection e9)
       simp only[add_plain]at k6 k7 k8 h2
       simp only[add_plain]at *
       have h3:=dt_ g
       have h4:=du_ g F.length
       obtain⟨f4,j7,p8,p9,q0,k9⟩:=at_T72 (Kd.R_reads' q.out).2.2 g (ot_ h3) (ot_ h4)
       rw[←N.out]at k9
       obtain rfl:(⟨m,0,none⟩:Addr)=f4:=(by injection j7)
       simp only[add_plain]at p8 p9 q0 k9
       simp only[add_plain]at *
       have o2:=dt_ g
       have o3:=du_ g F.length
       obtain⟨l4,r6,D2,D3,D4,C3⟩:=at_T72 (Kd.R_reads' q.out).2.2 g (ot_ o2) (ot_ o3)
       rw[←N.out]at C3
       obtain rfl:(⟨m,0,none⟩:Addr)=l4:=(by injection r6)
       simp only[add_plain]at D2 D3 D4 C3
       simp only[add_plain]at *
       have o4:=dt_ (((rd_T72 F g).f0))
       have o5:=du_ ((rd_T72 F g).f0) B.length
       obtain⟨l5,r7,W9⟩:=Kd.at_int (Kd.R_reads' E.out).2.2 ((rd_T72 F g).f0) (ot_ o4) (ot_ o5)
       obtain rfl:y=l5:=(by injection r7)
       go_wp2
       simp only[←d]
       go_roundg I9
       case measure=>have:=j6.out;have:=HK2.out;omega
       case rel=>exact⟨(wrap64 (g + 1)),(F),qe_,H',⟨by have:=j6.out;have:=HK2.out;omega⟩,⟨by(with_reducible repeat(first|apply Kd.R_alloc|apply Kd.R_drewN|apply Kd.R_drew));first|exact E.out|(have h_:=E.out;simp only[own_slice]at h_ ⊢;exact h_)⟩,⟨by simp only[d];(with_reducible repeat(first|apply Kd.R_alloc|apply Kd.R_drewN|apply Kd.R_drew));first|exact q.out|(have h_:=q.out;simp only[own_slice]at h_ ⊢;exact h_)⟩,⟨by simp only[d];exact qf_ C⟩,⟨by exact qf_ G⟩,⟨by exact qf_ D⟩,⟨qK_⟩,⟨qB_⟩⟩
      have r4:((rd B ((rd_T72 F g).f0))==I)=true:=beq_iff_eq.mpr p3
      have r5:((rd B ((rd_T72 F g).f0)) != I)=false:=bne_eq_false_iff_eq.mpr p3
      clear p3
      generalize r8:(F.set (g:Int).toNat (⟨(rd_T72 F g).f0,(rd_T72 F g).f1,V,true⟩:S72))=X0 at H;replace H:=bh_ H;have F6:=am_ r8.symm;clear r8;have H' :=am_ H;clear H;obtain⟨bI,bJ⟩:=nn_ n1;obtain⟨bK,bL⟩:=nn_ j5
      obtain⟨al,am,an,ao⟩:=bc2_ C
      have b1:=dp_ g
      have b2:(g:Int)<((F.length:Int):Int):=of_decide_eq_true qa_
      obtain⟨m,S5,q7,q8,e8,q9,b3⟩:=Kd.R_form q.out (by omega)
      (first|cases q7|(injection q7 with ea_ en_ ec_;(first|subst ea_|(injection ea_ with ea_;subst ea_));subst ec_;clear en_))
      have o1:=am_ q8
      have r0:=am_ b3
      clear q8 e8 b3
      have i0:=am_ (show(o m∨w.heap.size≤m) from(q.out.1 _ rfl))
      obtain⟨r1,c8,b4,z,A⟩:=Kd.R_elem q.out z72 (g:Int) b1 b2
      obtain rfl:=k72_openM b4
      have O0:wr.cell? ⟨m,(g:Int).toNat * 4,none⟩=some (.int .i64 ((rd_T72 F g).f0)):=z 0 _ rfl
      have O1:wr.cell? ⟨m,(g:Int).toNat * 4 + 1,none⟩=some (.int .i64 ((rd_T72 F g).f1)):=z 1 _ rfl
      have O2:wr.cell? ⟨m,(g:Int).toNat * 4 + 2,none⟩=some (.int .i64 ((rd_T72 F g).f2)):=z 2 _ rfl
      have D1:wr.cell? ⟨m,(g:Int).toNat * 4 + 3,none⟩=some (.bool ((rd_T72 F g).f3)):=z 3 _ rfl
      rw[←N.out]at D1
      have i1:wr.frozen? ⟨m,(g:Int).toNat * 4,none⟩=false:=A 0
      have i2:wr.frozen? ⟨m,(g:Int).toNat * 4 + 1,none⟩=false:=A 1
      have i3:wr.frozen? ⟨m,(g:Int).toNat * 4 + 2,none⟩=false:=A 2
      have i4:wr.frozen? ⟨m,(g:Int).toNat * 4 + 3,none⟩=false:=A 3
      clear c8 z A b4;replace b1:=eq_true b1;replace b2:=eq_true b2
      have e3:=dt_ g
      have e4:=du_ g F.length
      obtain⟨c9,e9,k6,k7,k8,h2⟩:=at_T72 (Kd.R_reads' q.out).2.2 g (ot_ e3) (ot_ e4)
      rw[←N.out]at h2
      obtain rfl:(⟨m,0,none⟩:Addr)=c9:=(by injection e9)
      simp only[add_plain]at k6 k7 k8 h2
      simp only[add_plain]at *
      have h3:=dt_ g
      have h4:=du_ g F.length
      obtain⟨f4,j7,p8,p9,q0,k9⟩:=at_T72 (Kd.R_reads' q.out).2.2 g (ot_ h3) (ot_ h4)
      rw[←N.out]at k9
      obtain rfl:(⟨m,0,none⟩:Addr)=f4:=(by injection j7)
      simp only[add_plain]at p8 p9 q0 k9
      simp only[add_plain]at *
      have o2:=dt_ g
      have o3:=du_ g F.length
      obtain⟨l4,r6,D2,D3,D4,C3⟩:=at_T72 (Kd.R_reads' q.out).2.2 g (ot_ o2) (ot_ o3)
      rw[←N.out]at C3
      obtain rfl:(⟨m,0,none⟩:Addr)=l4:=(by injection r6)
      simp only[add_plain]at D2 D3 D4 C3
      simp only[add_plain]at *
      have o4:=dt_ (((rd_T72 F g).f0))
      have o5:=du_ ((rd_T72 F g).f0) B.length
      obtain⟨l5,r7,W9⟩:=Kd.at_int (Kd.R_reads' E.out).2.2 ((rd_T72 F g).f0) (ot_ o4) (ot_ o5)
      obtain rfl:y=l5:=(by injection r7)
      have F7:=dt_ g
      have r9:(g:Int)<((F.length:Int):Int):=of_decide_eq_true qa_
      obtain⟨X1,F8,D5,f5,f6⟩:=Kd.R_elem q.out z72 (g:Int) (ot_ F7) r9
      obtain rfl:=k72_openM D5
      have ap:wr.cell? ⟨m,(g:Int).toNat * 4,none⟩=some (.int .i64 ((rd_T72 F g).f0)):=f5 0 _ rfl
      have aq:wr.cell? ⟨m,(g:Int).toNat * 4 + 1,none⟩=some (.int .i64 ((rd_T72 F g).f1)):=f5 1 _ rfl
      have ar:wr.cell? ⟨m,(g:Int).toNat * 4 + 2,none⟩=some (.int .i64 ((rd_T72 F g).f2)):=f5 2 _ rfl
      have X2:wr.cell? ⟨m,(g:Int).toNat * 4 + 3,none⟩=some (.bool ((rd_T72 F g).f3)):=f5 3 _ rfl
      rw[←N.out]at X2
      have O3:wr.frozen? ⟨m,(g:Int).toNat * 4,none⟩=false:=f6 0
      have O4:wr.frozen? ⟨m,(g:Int).toNat * 4 + 1,none⟩=false:=f6 1
      have O5:wr.frozen? ⟨m,(g:Int).toNat * 4 + 2,none⟩=false:=f6 2
      have O6:wr.frozen? ⟨m,(g:Int).toNat * 4 + 3,none⟩=false:=f6 3
      clear F8 f5 f6 D5;replace r9:=eq_true r9
      have D6:=am_ (show Kd.R k72 72 wr a4.heap.size (fun k_=>(o k_∨w.heap.size≤k_)) (.slice (some ⟨m,0,none⟩) F.length h0) F from(qR_ q))
      obtain⟨X3,s0,D7,l6,s1⟩:=Kd.R_elem D6.out z72 (g:Int) (of_decide_eq_true qa_) (by have h_:(g:Int)<((F.length:Int):Int):=of_decide_eq_true qa_;first|exact h_|(have e_:=(Kd.R_reads' q.out).1;omega)|simpa using h_)
      obtain rfl:=k72_openM D7
      have s2:=Kd.R_seg D6.out (g:Int) (of_decide_eq_true qa_) (by have h_:(g:Int)<((F.length:Int):Int):=of_decide_eq_true qa_;first|exact h_|(have e_:=(Kd.R_reads' q.out).1;omega)|simpa using h_) (seg:=[.int .i64 V]) (j:=2) s0 l6 (show 3≤4 from by decide) (x' :=(⟨(rd_T72 F g).f0,(rd_T72 F g).f1,V,true⟩:S72)) (by have e_:true=(List.getD F (g).toNat z72).f3:=N.out;rw[←e_];exact k72_mkM _ _ _ (⟨(rd_T72 F g).f0,(rd_T72 F g).f1,V,true⟩:S72)) (fun _ hk=>hk)
      have X4:=l6 2 _ rfl
      simp only[show(k72).sz=4 from rfl,Nat.mul_one,Nat.add_zero]at X4
      have C4:=s1 2
      simp only[show(k72).sz=4 from rfl,Nat.mul_one,Nat.add_zero]at C4
      clear s0 l6 s1 D7
      go_wp2_with (first|((with_reducible refine gate_store (t:=3) (p:=88) rfl ?_);refine store_event (t:=3) (p:=88) (v:= ?vo_w47) (w1:=(wr.setCell ⟨m,(g:Int).toNat * 4 + 2,none⟩ (.int .i64 V))) ?hg ?ho ?hn ?hr ?_;(case ho=>rfl);(case hg=>rfl);(case hn=>rfl);(case hr=>first|(go_simp;done)|(go_simp;rfl));intro F9 hw;have hg:wr.grownBy F9 (some m):=(by rw[hw];exact s2.2);have hp_:Kd.R k72 72 F9 a4.heap.size (fun k_=>(o k_∨w.heap.size≤k_)) (.slice (some ⟨m,0,none⟩) F.length h0) X0:=(by rw[hw,F6.out];exact s2.1);clear s2;refine dn7_ (am_ (Kd.R_over' (v:=(.slice (some ⟨m,0,none⟩) F.length h0)) (qR_ E) (Kd.R_typed q.out) (by decide) hg)) (am_ (hp_)) (am_ (blk_grown (qk_ C) hg (Kd.R_ne q.out C.out (by decide)))) (am_ (blk_grown (qk_ G) hg (Kd.R_ne q.out G.out (by decide)))) (am_ (blk_grown (qk_ D) hg (Kd.R_ne q.out D.out (by decide)))) (am_ ((by rw[hw];exact below_set (HB.out) o1.out:Below a4.heap.size a4 F9))) (am_ (Kept.of_grown (S:=(fun k_=>o k_)) hg (qK_) (fun k_ e_=>(q.out.1 k_ e_)))) ?_;clear E q C G D HB HK;intro E q C G D HB HK;clear hg hw hp_))
      simp only[←d]
      go_roundg I9
      case measure=>have:=j6.out;have:=HK2.out;omega
      case rel=>exact⟨(wrap64 (g + 1)),(X0),qe_,H',⟨by have:=j6.out;have:=HK2.out;omega⟩,⟨by(with_reducible repeat(first|apply Kd.R_alloc|apply Kd.R_drewN|apply Kd.R_drew));first|exact E.out|(have h_:=E.out;simp only[own_slice]at h_ ⊢;exact h_)⟩,⟨by simp only[d];(with_reducible repeat(first|apply Kd.R_alloc|apply Kd.R_drewN|apply Kd.R_drew));first|exact q.out|(have h_:=q.out;simp only[own_slice]at h_ ⊢;exact h_)⟩,⟨by simp only[d];exact qf_ C⟩,⟨by exact qf_ G⟩,⟨by exact qf_ D⟩,⟨qK_⟩,⟨qB_⟩⟩
     have H' :=am_ H;clear H;obtain⟨bM,bN⟩:=nn_ n1;obtain⟨bO,bP⟩:=nn_ j5
     obtain⟨au,av,aw,ax⟩:=bc2_ C
     go_wp2
     go_loopg [95] I9 (fun kq v95 w' =>∃ (a:Int) (l:List (S72)) (C5:Int) (C6:Int),v95= .int .i64 a∧Aside0 (impl_Web_look.l1 kq h1 B I V (F.length:Int) a a3 l=some (I4,I5,I6,I7))∧Aside0 (kq≤I9)∧Aside0 (Kd.R (Kd.int .i64) 3 w' a4.heap.size (fun k_=>(o k_∨w.heap.size≤k_)) (.slice (some y) B.length K0) B)∧Aside0 (Kd.R k72 72 w' a4.heap.size (fun k_=>(o k_∨w.heap.size≤k_)) (.slice E7 F.length h0) l)∧Aside0 (w'.heap[J7]? =some (.cells #[.int .i64 a3,(.slice E7 F.length h0)] 29 (0,0)))∧Aside0 (w'.heap[E8]? =some (.cells #[.int .i64 J,.int .i64 L] 43 (0,0)))∧Aside0 (w'.heap[U]? =some (.cells #[.int .i64 C5,.int .i64 C6] 43 (0,0)))∧Aside0 (Kept w w' (fun k_=>o k_))∧Aside0 (Below a4.heap.size a4 w'))
     case atStart=>exact⟨(0),(F),(0),(0),qe_,H',⟨Nat.le_refl _⟩,⟨by(with_reducible repeat(first|apply Kd.R_alloc|apply Kd.R_drewN|apply Kd.R_drew));first|exact E.out|(have h_:=E.out;simp only[own_slice]at h_ ⊢;exact h_)⟩,⟨by(with_reducible repeat(first|apply Kd.R_alloc|apply Kd.R_drewN|apply Kd.R_drew));first|exact q.out|(have h_:=q.out;simp only[own_slice]at h_ ⊢;exact h_)⟩,⟨by exact qf_ C⟩,⟨by exact qf_ G⟩,⟨by exact qf_ D⟩,⟨qK_⟩,⟨qB_⟩⟩
     case round=>
      clear H' q5 au av aw ax
      obtain⟨a,l,C5,C6,rfl,HA,HK3,E,q,C,G,D,HK,HB⟩:=hrel
      have i:=(Kd.R_reads' q.out).1
      rw[i]at q
      simp only[i]
      simp only[i]at C
      cases gk with
      |zero=>exact absurd HA.out (by simp [impl_Web_look.l1])
      |succ L4=>
       have H:=HA.out;clear HA
       simp only[impl_Web_look.l1]at H
       refine ib_ H ?_ ?_<;>clear H<;>intro G0 H<;>simp only[i]at G0
       ·simp only[Option.some.injEq,Prod.mk.injEq]at H
        obtain⟨rfl,rfl,rfl,rfl⟩:=H
        obtain⟨bY,bZ⟩:=nn_ J8;obtain⟨ca,cb⟩:=nn_ J9
        obtain⟨cc,cd,ce,u0⟩:=bc2_ D
        go_wp2
        refine bodyPost_ret (results_ct rfl _ _ U 43 #[.int .i64 0,.int .i64 0] (0,0) _ rfl (qp_ D) Try.underlying43 rfl (by kernel_rfl)) rfl ?_
        exact⟨by first|rfl|(simp [errW_none,errW_some]<;>rfl)|(simp only[←d9];first|rfl|(simp [errW_none,errW_some]<;>rfl))|(simp [*,errW_none,errW_some]<;>rfl),(by first|exact(by(with_reducible repeat(first|apply Kd.R_alloc|apply Kd.R_drewN|apply Kd.R_drew));exact Kd.R_mono (Kd.R_far (p:=⟨U,1,none⟩) (Kd.R_far (p:=⟨U,0,none⟩) (Kd.R_types q.out D.out (by decide)) (fun _ hk=>hk.2) (.int .i64 0)) (fun _ hk=>hk.2) (.int .i64 0)) (fun _ hk=>hk.1))|(simp only[d,i];exact(by(with_reducible repeat(first|apply Kd.R_alloc|apply Kd.R_drewN|apply Kd.R_drew));exact Kd.R_mono (Kd.R_far (p:=⟨U,1,none⟩) (Kd.R_far (p:=⟨U,0,none⟩) (Kd.R_types q.out D.out (by decide)) (fun _ hk=>hk.2) (.int .i64 0)) (fun _ hk=>hk.2) (.int .i64 0)) (fun _ hk=>hk.1)))),qB_,qK_⟩
       refine ig_ H ?_;clear H;intro S6 H
       refine ig_ H ?_;clear H;intro S7 H
       generalize s3:((rd_T72 l a).f3)=X9 at H;have s:=am_ s3.symm;clear s3
       refine ie_ H ?_ ?_<;>clear H<;>rintro rfl H
       ·have H' :=am_ H;clear H;obtain⟨cf,cg⟩:=nn_ n1;obtain⟨ch,ci⟩:=nn_ j5
        obtain⟨cj,ck,cl,cm⟩:=bc2_ C
        have X:=dp_ a
        have Y:(a:Int)<((l.length:Int):Int):=of_decide_eq_true qa_
        obtain⟨c,J0,h5,h6,a5,h7,O⟩:=Kd.R_form q.out (by omega)
        (first|cases h5|(injection h5 with ea_ en_ ec_;(first|subst ea_|(injection ea_ with ea_;subst ea_));subst ec_;clear en_))
        have c6:=am_ h6
        have h8:=am_ O
        clear h6 a5 O
        have c0:=am_ (show(o c∨w.heap.size≤c) from(q.out.1 _ rfl))
        obtain⟨h9,Z,T,u,x⟩:=Kd.R_elem q.out z72 (a:Int) X Y
        obtain rfl:=k72_openM T
        have J1:wr.cell? ⟨c,(a:Int).toNat * 4,none⟩=some (.int .i64 ((rd_T72 l a).f0)):=u 0 _ rfl
        have J2:wr.cell? ⟨c,(a:Int).toNat * 4 + 1,none⟩=some (.int .i64 ((rd_T72 l a).f1)):=u 1 _ rfl
        have l2:wr.cell? ⟨c,(a:Int).toNat * 4 + 2,none⟩=some (.int .i64 ((rd_T72 l a).f2)):=u 2 _ rfl
        have l3:wr.cell? ⟨c,(a:Int).toNat * 4 + 3,none⟩=some (.bool ((rd_T72 l a).f3)):=u 3 _ rfl
        rw[←s.out]at l3
        have c1:wr.frozen? ⟨c,(a:Int).toNat * 4,none⟩=false:=x 0
        have c2:wr.frozen? ⟨c,(a:Int).toNat * 4 + 1,none⟩=false:=x 1
        have c3:wr.frozen? ⟨c,(a:Int).toNat * 4 + 2,none⟩=false:=x 2
        have c4:wr.frozen? ⟨c,(a:Int).toNat * 4 + 3,none⟩=false:=x 3
        clear Z u x T;replace X:=eq_true X;replace Y:=eq_true Y
        have a6:=dt_ a
        have a7:=du_ a l.length
        obtain⟨a0,a8,e0,e1,e2,c5⟩:=at_T72 (Kd.R_reads' q.out).2.2 a (ot_ a6) (ot_ a7)
        rw[←s.out]at c5
        obtain rfl:(⟨c,0,none⟩:Addr)=a0:=(by injection a8)
        simp only[add_plain]at e0 e1 e2 c5
        simp only[add_plain]at *
        go_wp2
        simp only[←i]
        go_roundg L4
        case measure=>have:=j6.out;have:=HK2.out;have:=HK3.out;omega
        case rel=>exact⟨(wrap64 (a + 1)),(l),(C5),(C6),qe_,H',⟨by have:=j6.out;have:=HK2.out;have:=HK3.out;omega⟩,⟨by(with_reducible repeat(first|apply Kd.R_alloc|apply Kd.R_drewN|apply Kd.R_drew));first|exact E.out|(have h_:=E.out;simp only[own_slice]at h_ ⊢;exact h_)⟩,⟨by simp only[i];(with_reducible repeat(first|apply Kd.R_alloc|apply Kd.R_drewN|apply Kd.R_drew));first|exact q.out|(have h_:=q.out;simp only[own_slice]at h_ ⊢;exact h_)⟩,⟨by simp only[i];exact qf_ C⟩,⟨by exact qf_ G⟩,⟨by exact qf_ D⟩,⟨qK_⟩,⟨qB_⟩⟩
       refine jb_ H ?_ ?_<;>clear H<;>intro s4 H
       ·have G1:(((rd_T72 l a).f2)==h1)=false:=beq_eq_false_iff_ne.mpr s4
        have G2:(((rd_T72 l a).f2) != h1)=true:=bne_iff_ne.mpr s4
        have H' :=am_ H;clear H;obtain⟨cn,co⟩:=nn_ n1;obtain⟨cp,cq⟩:=nn_ j5
        obtain⟨u1,u2,u3,u4⟩:=bc2_ C
        have X:=dp_ a
        have Y:(a:Int)<((l.length:Int):Int):=of_decide_eq_true qa_
        obtain⟨c,J0,h5,h6,a5,h7,O⟩:=Kd.R_form q.out (by omega)
        (first|cases h5|(injection h5 with ea_ en_ ec_;(first|subst ea_|(injection ea_ with ea_;subst ea_));subst ec_;clear en_))
        have c6:=am_ h6
        have h8:=am_ O
        clear h6 a5 O
        have c0:=am_ (show(o c∨w.heap.size≤c) from(q.out.1 _ rfl))
        obtain⟨h9,Z,T,u,x⟩:=Kd.R_elem q.out z72 (a:Int) X Y
        obtain rfl:=k72_openM T
        have J1:wr.cell? ⟨c,(a:Int).toNat * 4,none⟩=some (.int .i64 ((rd_T72 l a).f0)):=u 0 _ rfl
        have J2:wr.cell? ⟨c,(a:Int).toNat * 4 + 1,none⟩=some (.int .i64 ((rd_T72 l a).f1)):=u 1 _ rfl
        have l2:wr.cell? ⟨c,(a:Int).toNat * 4 + 2,none⟩=some (.int .i64 ((rd_T72 l a).f2)):=u 2 _ rfl
        have l3:wr.cell? ⟨c,(a:Int).toNat * 4 + 3,none⟩=some (.bool ((rd_T72 l a).f3)):=u 3 _ rfl
        rw[←s.out]at l3
        have c1:wr.frozen? ⟨c,(a:Int).toNat * 4,none⟩=false:=x 0
        have c2:wr.frozen? ⟨c,(a:Int).toNat * 4 + 1,none⟩=false:=x 1
        have c3:wr.frozen? ⟨c,(a:Int).toNat * 4 + 2,none⟩=false:=x 2
        have c4:wr.frozen? ⟨c,(a:Int).toNat * 4 + 3,none⟩=false:=x 3
        clear Z u x T;replace X:=eq_true X;replace Y:=eq_true Y
        have a6:=dt_ a
        have a7:=du_ a l.length
        obtain⟨a0,a8,e0,e1,e2,c5⟩:=at_T72 (Kd.R_reads' q.out).2.2 a (ot_ a6) (ot_ a7)
        rw[←s.out]at c5
        obtain rfl:(⟨c,0,none⟩:Addr)=a0:=(by injection a8)
        simp only[add_plain]at e0 e1 e2 c5
        simp only[add_plain]at *
        have b5:=dt_ a
        have b6:=du_ a l.length
        obtain⟨a2,b7,f7,f8,f9,d0⟩:=at_T72 (Kd.R_reads' q.out).2.2 a (ot_ b5) (ot_ b6)
        rw[←s.out]at d0
        obtain rfl:(⟨c,0,none⟩:Addr)=a2:=(by injection b7)
        simp only[add_plain]at f7 f8 f9 d0
        simp only[add_plain]at *
        go_wp2
        simp only[←i]
        go_roundg L4
        case measure=>have:=j6.out;have:=HK2.out;have:=HK3.out;omega
        case rel=>exact⟨(wrap64 (a + 1)),(l),(C5),(C6),qe_,H',⟨by have:=j6.out;have:=HK2.out;have:=HK3.out;omega⟩,⟨by(with_reducible repeat(first|apply Kd.R_alloc|apply Kd.R_drewN|apply Kd.R_drew));first|exact E.out|(have h_:=E.out;simp only[own_slice]at h_ ⊢;exact h_)⟩,⟨by simp only[i];(with_reducible repeat(first|apply Kd.R_alloc|apply Kd.R_drewN|apply Kd.R_drew));first|exact q.out|(have h_:=q.out;simp only[own_slice]at h_ ⊢;exact h_)⟩,⟨by simp only[i];exact qf_ C⟩,⟨by exact qf_ G⟩,⟨by exact qf_ D⟩,⟨qK_⟩,⟨qB_⟩⟩
       have G1:(((rd_T72 l a).f2)==h1)=true:=beq_iff_eq.mpr s4
       have G2:(((rd_T72 l a).f2) != h1)=false:=bne_eq_false_iff_eq.mpr s4
       clear s4
       refine ig_ H ?_;clear H;intro S8 H
       refine ig_ H ?_;clear H;intro S9 H
       refine jc_ H ?_ ?_<;>clear H<;>intro s5 H
       ·have G3:((rd B ((rd_T72 l a).f0))==I)=true:=beq_iff_eq.mpr s5
        have G4:((rd B ((rd_T72 l a).f0)) != I)=false:=bne_eq_false_iff_eq.mpr s5
        clear s5
        refine ig_ H ?_;clear H;intro T0 H
        refine ig_ H ?_;clear H;intro T2 H
        refine jc_ H ?_ ?_<;>clear H<;>intro s6 H
        ·have G5:((rd B ((rd_T72 l a).f0))==(rd B ((rd_T72 l a).f1)))=true:=beq_iff_eq.mpr s6
         have G6:((rd B ((rd_T72 l a).f0)) != (rd B ((rd_T72 l a).f1)))=false:=bne_eq_false_iff_eq.mpr s6
         clear s6
         generalize s7:(l.set (a:Int).toNat (⟨(rd_T72 l a).f0,(rd_T72 l a).f1,V,false⟩:S72))=Y0 at H;replace H:=bh_ H;have G7:=am_ s7.symm;clear s7;have H' :=am_ H;clear H;obtain⟨cr,ct⟩:=nn_ n1;obtain⟨cu,cv⟩:=nn_ j5
         obtain⟨cw,cx,cy,cz⟩:=bc2_ C
         have X:=dp_ a
         have Y:(a:Int)<((l.length:Int):Int):=of_decide_eq_true qa_
         obtain⟨c,J0,h5,h6,a5,h7,O⟩:=Kd.R_form q.out (by omega)
         (first|cases h5|(injection h5 with ea_ en_ ec_;(first|subst ea_|(injection ea_ with ea_;subst ea_));subst ec_;clear en_))
         have c6:=am_ h6
         have h8:=am_ O
         clear h6 a5 O
         have c0:=am_ (show(o c∨w.heap.size≤c) from(q.out.1 _ rfl))
         obtain⟨h9,Z,T,u,x⟩:=Kd.R_elem q.out z72 (a:Int) X Y
         obtain rfl:=k72_openM T
         have J1:wr.cell? ⟨c,(a:Int).toNat * 4,none⟩=some (.int .i64 ((rd_T72 l a).f0)):=u 0 _ rfl
         have J2:wr.cell? ⟨c,(a:Int).toNat * 4 + 1,none⟩=some (.int .i64 ((rd_T72 l a).f1)):=u 1 _ rfl
         have l2:wr.cell? ⟨c,(a:Int).toNat * 4 + 2,none⟩=some (.int .i64 ((rd_T72 l a).f2)):=u 2 _ rfl
         have l3:wr.cell? ⟨c,(a:Int).toNat * 4 + 3,none⟩=some (.bool ((rd_T72 l a).f3)):=u 3 _ rfl
         rw[←s.out]at l3
         have c1:wr.frozen? ⟨c,(a:Int).toNat * 4,none⟩=false:=x 0
         have c2:wr.frozen? ⟨c,(a:Int).toNat * 4 + 1,none⟩=false:=x 1
         have c3:wr.frozen? ⟨c,(a:Int).toNat * 4 + 2,none⟩=false:=x 2
         have c4:wr.frozen? ⟨c,(a:Int).toNat * 4 + 3,none⟩=false:=x 3
         clear Z u x T;replace X:=eq_true X;replace Y:=eq_true Y
         have a6:=dt_ a
         have a7:=du_ a l.length
         obtain⟨a0,a8,e0,e1,e2,c5⟩:=at_T72 (Kd.R_reads' q.out).2.2 a (ot_ a6) (ot_ a7)
         rw[←s.out]at c5
         obtain rfl:(⟨c,0,none⟩:Addr)=a0:=(by injection a8)
         simp only[add_plain]at e0 e1 e2 c5
         simp only[add_plain]at *
         have b5:=dt_ a
         have b6:=du_ a l.length
         obtain⟨a2,b7,f7,f8,f9,d0⟩:=at_T72 (Kd.R_reads' q.out).2.2 a (ot_ b5) (ot_ b6)
         rw[←s.out]at d0
         obtain rfl:(⟨c,0,none⟩:Addr)=a2:=(by injection b7)
         simp only[add_plain]at f7 f8 f9 d0
         simp only[add_plain]at *
         have d1:=dt_ a
         have d2:=du_ a l.length
         obtain⟨a9,d3,i5,i6,i7,e6⟩:=at_T72 (Kd.R_reads' q.out).2.2 a (ot_ d1) (ot_ d2)
         rw[←s.out]at e6
         obtain rfl:(⟨c,0,none⟩:Addr)=a9:=(by injection d3)
         simp only[add_plain]at i5 i6 i7 e6
         simp only[add_plain]at *
         have d4:=dt_ (((rd_T72 l a).f0))
         have d5:=du_ ((rd_T72 l a).f0) B.length
         obtain⟨b0,d6,O7⟩:=Kd.at_int (Kd.R_reads' E.out).2.2 ((rd_T72 l a).f0) (ot_ d4) (ot_ d5)
         obtain rfl:y=b0:=(by injection d6)
         try go_wp2
         replace E:=rd_ E;replace q:=rd_ q;replace C:=bd_ C;replace G:=bd_ G;replace D:=bd_ D;replace HK:=am_ (Kept.drew HK.out);replace HB:=hd_ HB
         have s8:=dt_ a
         have s9:=du_ a l.length
         obtain⟨l7,t0,t1,t2,t3,p4⟩:=at_T72 (Kd.R_reads' q.out).2.2 a (ot_ s8) (ot_ s9)
         rw[←s.out]at p4
         obtain rfl:(⟨c,0,none⟩:Addr)=l7:=(by injection t0)
         simp only[add_plain]at t1 t2 t3 p4
         simp only[add_plain]at *
         have t4:=dt_ (((rd_T72 l a).f0))
         have t5:=du_ ((rd_T72 l a).f0) B.length
         obtain⟨l8,t6,L5⟩:=Kd.at_int (Kd.R_reads' E.out).2.2 ((rd_T72 l a).f0) (ot_ t4) (ot_ t5)
         obtain rfl:y=l8:=(by injection t6)
         have t7:=dt_ a
         have t8:=du_ a l.length
         obtain⟨l9,t9,w0,w2,w3,p5⟩:=at_T72 (Kd.R_reads' q.out).2.2 a (ot_ t7) (ot_ t8)
         rw[←s.out]at p5
         obtain rfl:(⟨c,0,none⟩:Addr)=l9:=(by injection t9)
         simp only[add_plain]at w0 w2 w3 p5
         simp only[add_plain]at *
         have w4:=dt_ (((rd_T72 l a).f1))
         have w5:=du_ ((rd_T72 l a).f1) B.length
         obtain⟨m0,w6,j1⟩:=Kd.at_int (Kd.R_reads' E.out).2.2 ((rd_T72 l a).f1) (ot_ w4) (ot_ w5)
         obtain rfl:y=m0:=(by injection w6)
         refine start_ (n:=15) (S:=fun w' =>w'.cell? ⟨c,(a).toNat * 4,none⟩=some (.int .i64 ((rd_T72 l a).f0))∧w'.cell? ⟨c,(a).toNat * 4 + 1,none⟩=some (.int .i64 ((rd_T72 l a).f1))∧w'.cell? ⟨c,(a).toNat * 4 + 2,none⟩=some (.int .i64 ((rd_T72 l a).f2))∧w'.cell? ⟨c,(a).toNat * 4 + 3,none⟩=some (.bool (false))∧w'.cell? (y.add (((rd_T72 l a).f0)).toNat)=some (.int .i64 (rd B ((rd_T72 l a).f0)))∧w'.cell? ⟨c,(a).toNat * 4,none⟩=some (.int .i64 ((rd_T72 l a).f0))∧w'.cell? ⟨c,(a).toNat * 4 + 1,none⟩=some (.int .i64 ((rd_T72 l a).f1))∧w'.cell? ⟨c,(a).toNat * 4 + 2,none⟩=some (.int .i64 ((rd_T72 l a).f2))∧w'.cell? ⟨c,(a).toNat * 4 + 3,none⟩=some (.bool (false))∧w'.cell? (y.add (((rd_T72 l a).f1)).toNat)=some (.int .i64 (rd B ((rd_T72 l a).f1)))) (ds:=[]) (bm 15 0) (by kernel_rfl) rfl (by kernel_rfl) ⟨t1,t2,t3,p4,L5,w0,w2,w3,p5,j1⟩ (fun hHeld=> ?_);refine with_tabW impl_Web_look.tab18 impl_Web_look.bits18 (fun HT_ HW_=> ?_)
         generalize wr.drew=g0 at E q C G D HK HB t1 t2 t3 p4 L5 w0 w2 w3 p5 j1 hHeld ⊢
         refine pz_ 0 138 15 1 ?_;refine pz_ 1 139 15 3 ?_;refine pz_ 2 140 15 7 ?_;refine pz_ 3 141 15 15 ?_;refine pz_ 7 145 15 143 ?_;refine pz_ 8 146 15 399 ?_;refine pz_ 9 147 15 911 ?_;refine pz_ 10 148 15 1935 ?_;refine tz10_ 4 142 (bm 15 1951) ?_;refine pz_ 5 143 15 1983 ?_;refine tz10_ 6 144 (bm 15 2047) ?_;refine tz10_ 11 149 (bm 15 4095) ?_;refine pz_ 12 150 15 8191 ?_;refine tz10_ 13 151 (bm 15 16383) ?_;refine pz_ 14 152 15 32767 ?_
         refine done_ (done_of HT_.out (by kernel_rfl)) ?_
         have T7:=dt_ a
         have G8:(a:Int)<((l.length:Int):Int):=of_decide_eq_true qa_
         obtain⟨Y1,G9,D8,g1,g2⟩:=Kd.R_elem q.out z72 (a:Int) (ot_ T7) G8
         obtain rfl:=k72_openM D8
         have cA:g0.cell? ⟨c,(a:Int).toNat * 4,none⟩=some (.int .i64 ((rd_T72 l a).f0)):=g1 0 _ rfl
         have cB:g0.cell? ⟨c,(a:Int).toNat * 4 + 1,none⟩=some (.int .i64 ((rd_T72 l a).f1)):=g1 1 _ rfl
         have cC:g0.cell? ⟨c,(a:Int).toNat * 4 + 2,none⟩=some (.int .i64 ((rd_T72 l a).f2)):=g1 2 _ rfl
         have aY:g0.cell? ⟨c,(a:Int).toNat * 4 + 3,none⟩=some (.bool ((rd_T72 l a).f3)):=g1 3 _ rfl
         rw[←s.out]at aY
         have O8:g0.frozen? ⟨c,(a:Int).toNat * 4,none⟩=false:=g2 0
         have O9:g0.frozen? ⟨c,(a:Int).toNat * 4 + 1,none⟩=false:=g2 1
         have P0:g0.frozen? ⟨c,(a:Int).toNat * 4 + 2,none⟩=false:=g2 2
         have P1:g0.frozen? ⟨c,(a:Int).toNat * 4 + 3,none⟩=false:=g2 3
         clear G9 g1 g2 D8;replace G8:=eq_true G8
         have D9:=am_ (show Kd.R k72 72 g0 a4.heap.size (fun k_=>(o k_∨w.heap.size≤k_)) (.slice (some ⟨c,0,none⟩) l.length h0) l from(qR_ q))
         obtain⟨Y2,w7,E0,m1,w8⟩:=Kd.R_elem D9.out z72 (a:Int) (of_decide_eq_true qa_) (by have h_:(a:Int)<((l.length:Int):Int):=of_decide_eq_true qa_;first|exact h_|(have e_:=(Kd.R_reads' q.out).1;omega)|simpa using h_)
         obtain rfl:=k72_openM E0
         have w9:=Kd.R_seg D9.out (a:Int) (of_decide_eq_true qa_) (by have h_:(a:Int)<((l.length:Int):Int):=of_decide_eq_true qa_;first|exact h_|(have e_:=(Kd.R_reads' q.out).1;omega)|simpa using h_) (seg:=[.int .i64 V]) (j:=2) w7 m1 (show 3≤4 from by decide) (x' :=(⟨(rd_T72 l a).f0,(rd_T72 l a).f1,V,false⟩:S72)) (by have e_:false=(List.getD l (a).toNat z72).f3:=s.out;rw[←e_];exact k72_mkM _ _ _ (⟨(rd_T72 l a).f0,(rd_T72 l a).f1,V,false⟩:S72)) (fun _ hk=>hk)
         have aZ:=m1 2 _ rfl
         simp only[show(k72).sz=4 from rfl,Nat.mul_one,Nat.add_zero]at aZ
         have C7:=w8 2
         simp only[show(k72).sz=4 from rfl,Nat.mul_one,Nat.add_zero]at C7
         clear w7 m1 w8 E0
         try go_wp2_with (first|((with_reducible refine gate_store (t:=3) (p:=168) rfl ?_);refine store_event (t:=3) (p:=168) (v:= ?vo_w82) (w1:=(g0.setCell ⟨c,(a:Int).toNat * 4 + 2,none⟩ (.int .i64 V))) ?hg ?ho ?hn ?hr ?_;(case ho=>rfl);(case hg=>rfl);(case hn=>rfl);(case hr=>first|(go_simp;done)|(go_simp;rfl));intro H0 hw;have hg:g0.grownBy H0 (some c):=(by rw[hw];exact w9.2);have hp_:Kd.R k72 72 H0 a4.heap.size (fun k_=>(o k_∨w.heap.size≤k_)) (.slice (some ⟨c,0,none⟩) l.length h0) Y0:=(by rw[hw,G7.out];exact w9.1);clear w9;refine dn7_ (am_ (Kd.R_over' (v:=(.slice (some ⟨c,0,none⟩) l.length h0)) (qR_ E) (Kd.R_typed q.out) (by decide) hg)) (am_ (hp_)) (am_ (blk_grown (qk_ C) hg (Kd.R_ne q.out C.out (by decide)))) (am_ (blk_grown (qk_ G) hg (Kd.R_ne q.out G.out (by decide)))) (am_ (blk_grown (qk_ D) hg (Kd.R_ne q.out D.out (by decide)))) (am_ ((by rw[hw];exact below_set (HB.out) c6.out:Below a4.heap.size a4 H0))) (am_ (Kept.of_grown (S:=(fun k_=>o k_)) hg (qK_) (fun k_ e_=>(q.out.1 k_ e_)))) ?_;clear E q C G D HB HK;intro E q C G D HB HK;clear hg hw hp_))
         simp only[←i]
         go_roundg L4
         case measure=>have:=j6.out;have:=HK2.out;have:=HK3.out;omega
         case rel=>exact⟨(wrap64 (a + 1)),(Y0),(C5),(C6),qe_,H',⟨by have:=j6.out;have:=HK2.out;have:=HK3.out;omega⟩,⟨by(with_reducible repeat(first|apply Kd.R_alloc|apply Kd.R_drewN|apply Kd.R_drew));first|exact E.out|(have h_:=E.out;simp only[own_slice]at h_ ⊢;exact h_)⟩,⟨by simp only[i];(with_reducible repeat(first|apply Kd.R_alloc|apply Kd.R_drewN|apply Kd.R_drew));first|exact q.out|(have h_:=q.out;simp only[own_slice]at h_ ⊢;exact h_)⟩,⟨by simp only[i];exact qf_ C⟩,⟨by exact qf_ G⟩,⟨by exact qf_ D⟩,⟨qK_⟩,⟨qB_⟩⟩
        have G5:((rd B ((rd_T72 l a).f0))==(rd B ((rd_T72 l a).f1)))=false:=beq_eq_false_iff_ne.mpr s6
        have G6:((rd B ((rd_T72 l a).f0)) != (rd B ((rd_T72 l a).f1)))=true:=bne_iff_ne.mpr s6
        generalize x0:(l.set (a:Int).toNat (⟨(rd_T72 l a).f0,(rd_T72 l a).f1,(rd_T72 l a).f2,true⟩:S72))=j8 at H;replace H:=bh_ H;have m2:=am_ x0.symm;clear x0
        simp only[Option.some.injEq,Prod.mk.injEq]at H
        obtain⟨rfl,rfl,rfl,rfl⟩:=H
        obtain⟨cD,cE⟩:=nn_ n1;obtain⟨cF,cG⟩:=nn_ j5
        obtain⟨cH,cI,cJ,cK⟩:=bc2_ C
        have X:=dp_ a
        have Y:(a:Int)<((l.length:Int):Int):=of_decide_eq_true qa_
        obtain⟨c,J0,h5,h6,a5,h7,O⟩:=Kd.R_form q.out (by omega)
        (first|cases h5|(injection h5 with ea_ en_ ec_;(first|subst ea_|(injection ea_ with ea_;subst ea_));subst ec_;clear en_))
        have c6:=am_ h6
        have h8:=am_ O
        clear h6 a5 O
        have c0:=am_ (show(o c∨w.heap.size≤c) from(q.out.1 _ rfl))
        obtain⟨h9,Z,T,u,x⟩:=Kd.R_elem q.out z72 (a:Int) X Y
        obtain rfl:=k72_openM T
        have J1:wr.cell? ⟨c,(a:Int).toNat * 4,none⟩=some (.int .i64 ((rd_T72 l a).f0)):=u 0 _ rfl
        have J2:wr.cell? ⟨c,(a:Int).toNat * 4 + 1,none⟩=some (.int .i64 ((rd_T72 l a).f1)):=u 1 _ rfl
        have l2:wr.cell? ⟨c,(a:Int).toNat * 4 + 2,none⟩=some (.int .i64 ((rd_T72 l a).f2)):=u 2 _ rfl
        have l3:wr.cell? ⟨c,(a:Int).toNat * 4 + 3,none⟩=some (.bool ((rd_T72 l a).f3)):=u 3 _ rfl
        rw[←s.out]at l3
        have c1:wr.frozen? ⟨c,(a:Int).toNat * 4,none⟩=false:=x 0
        have c2:wr.frozen? ⟨c,(a:Int).toNat * 4 + 1,none⟩=false:=x 1
        have c3:wr.frozen? ⟨c,(a:Int).toNat * 4 + 2,none⟩=false:=x 2
        have c4:wr.frozen? ⟨c,(a:Int).toNat * 4 + 3,none⟩=false:=x 3
        clear Z u x T;replace X:=eq_true X;replace Y:=eq_true Y
        have a6:=dt_ a
        have a7:=du_ a l.length
        obtain⟨a0,a8,e0,e1,e2,c5⟩:=at_T72 (Kd.R_reads' q.out).2.2 a (ot_ a6) (ot_ a7)
        rw[←s.out]at c5
        obtain rfl:(⟨c,0,none⟩:Addr)=a0:=(by injection a8)
        simp only[add_plain]at e0 e1 e2 c5
        simp only[add_plain]at *
        have b5:=dt_ a
        have b6:=du_ a l.length
        obtain⟨a2,b7,f7,f8,f9,d0⟩:=at_T72 (Kd.R_reads' q.out).2.2 a (ot_ b5) (ot_ b6)
        rw[←s.out]at d0
        obtain rfl:(⟨c,0,none⟩:Addr)=a2:=(by injection b7)
        simp only[add_plain]at f7 f8 f9 d0
        simp only[add_plain]at *
        have d1:=dt_ a
        have d2:=du_ a l.length
        obtain⟨a9,d3,i5,i6,i7,e6⟩:=at_T72 (Kd.R_reads' q.out).2.2 a (ot_ d1) (ot_ d2)
        rw[←s.out]at e6
        obtain rfl:(⟨c,0,none⟩:Addr)=a9:=(by injection d3)
        simp only[add_plain]at i5 i6 i7 e6
        simp only[add_plain]at *
        have d4:=dt_ (((rd_T72 l a).f0))
        have d5:=du_ ((rd_T72 l a).f0) B.length
        obtain⟨b0,d6,O7⟩:=Kd.at_int (Kd.R_reads' E.out).2.2 ((rd_T72 l a).f0) (ot_ d4) (ot_ d5)
        obtain rfl:y=b0:=(by injection d6)
        try go_wp2
        replace E:=rd_ E;replace q:=rd_ q;replace C:=bd_ C;replace G:=bd_ G;replace D:=bd_ D;replace HK:=am_ (Kept.drew HK.out);replace HB:=hd_ HB
        have s8:=dt_ a
        have s9:=du_ a l.length
        obtain⟨l7,t0,t1,t2,t3,p4⟩:=at_T72 (Kd.R_reads' q.out).2.2 a (ot_ s8) (ot_ s9)
        rw[←s.out]at p4
        obtain rfl:(⟨c,0,none⟩:Addr)=l7:=(by injection t0)
        simp only[add_plain]at t1 t2 t3 p4
        simp only[add_plain]at *
        have t4:=dt_ (((rd_T72 l a).f0))
        have t5:=du_ ((rd_T72 l a).f0) B.length
        obtain⟨l8,t6,L5⟩:=Kd.at_int (Kd.R_reads' E.out).2.2 ((rd_T72 l a).f0) (ot_ t4) (ot_ t5)
        obtain rfl:y=l8:=(by injection t6)
        have t7:=dt_ a
        have t8:=du_ a l.length
        obtain⟨l9,t9,w0,w2,w3,p5⟩:=at_T72 (Kd.R_reads' q.out).2.2 a (ot_ t7) (ot_ t8)
        rw[←s.out]at p5
        obtain rfl:(⟨c,0,none⟩:Addr)=l9:=(by injection t9)
        simp only[add_plain]at w0 w2 w3 p5
        simp only[add_plain]at *
        have w4:=dt_ (((rd_T72 l a).f1))
        have w5:=du_ ((rd_T72 l a).f1) B.length
        obtain⟨m0,w6,j1⟩:=Kd.at_int (Kd.R_reads' E.out).2.2 ((rd_T72 l a).f1) (ot_ w4) (ot_ w5)
        obtain rfl:y=m0:=(by injection w6)
        refine start_ (n:=15) (S:=fun w' =>w'.cell? ⟨c,(a).toNat * 4,none⟩=some (.int .i64 ((rd_T72 l a).f0))∧w'.cell? ⟨c,(a).toNat * 4 + 1,none⟩=some (.int .i64 ((rd_T72 l a).f1))∧w'.cell? ⟨c,(a).toNat * 4 + 2,none⟩=some (.int .i64 ((rd_T72 l a).f2))∧w'.cell? ⟨c,(a).toNat * 4 + 3,none⟩=some (.bool (false))∧w'.cell? (y.add (((rd_T72 l a).f0)).toNat)=some (.int .i64 (rd B ((rd_T72 l a).f0)))∧w'.cell? ⟨c,(a).toNat * 4,none⟩=some (.int .i64 ((rd_T72 l a).f0))∧w'.cell? ⟨c,(a).toNat * 4 + 1,none⟩=some (.int .i64 ((rd_T72 l a).f1))∧w'.cell? ⟨c,(a).toNat * 4 + 2,none⟩=some (.int .i64 ((rd_T72 l a).f2))∧w'.cell? ⟨c,(a).toNat * 4 + 3,none⟩=some (.bool (false))∧w'.cell? (y.add (((rd_T72 l a).f1)).toNat)=some (.int .i64 (rd B ((rd_T72 l a).f1)))) (ds:=[]) (bm 15 0) (by kernel_rfl) rfl (by kernel_rfl) ⟨t1,t2,t3,p4,L5,w0,w2,w3,p5,j1⟩ (fun hHeld=> ?_);refine with_tabW impl_Web_look.tab18 impl_Web_look.bits18 (fun HT_ HW_=> ?_)
        generalize wr.drew=g3 at E q C G D HK HB t1 t2 t3 p4 L5 w0 w2 w3 p5 j1 hHeld ⊢
        refine pz_ 0 138 15 1 ?_;refine pz_ 1 139 15 3 ?_;refine pz_ 2 140 15 7 ?_;refine pz_ 3 141 15 15 ?_;refine pz_ 7 145 15 143 ?_;refine pz_ 8 146 15 399 ?_;refine pz_ 9 147 15 911 ?_;refine pz_ 10 148 15 1935 ?_;refine tz10_ 4 142 (bm 15 1951) ?_;refine pz_ 5 143 15 1983 ?_;refine tz10_ 6 144 (bm 15 2047) ?_;refine tz10_ 11 149 (bm 15 4095) ?_;refine pz_ 12 150 15 8191 ?_;refine tz10_ 13 151 (bm 15 16383) ?_;refine pz_ 14 152 15 32767 ?_
        refine done_ (done_of HT_.out (by kernel_rfl)) ?_
        have U0:=dt_ a
        have H1:(a:Int)<((l.length:Int):Int):=of_decide_eq_true qa_
        obtain⟨Y3,H2,E1,g4,g5⟩:=Kd.R_elem q.out z72 (a:Int) (ot_ U0) H1
        obtain rfl:=k72_openM E1
        have cL:g3.cell? ⟨c,(a:Int).toNat * 4,none⟩=some (.int .i64 ((rd_T72 l a).f0)):=g4 0 _ rfl
        have cM:g3.cell? ⟨c,(a:Int).toNat * 4 + 1,none⟩=some (.int .i64 ((rd_T72 l a).f1)):=g4 1 _ rfl
        have cN:g3.cell? ⟨c,(a:Int).toNat * 4 + 2,none⟩=some (.int .i64 ((rd_T72 l a).f2)):=g4 2 _ rfl
        have B1:g3.cell? ⟨c,(a:Int).toNat * 4 + 3,none⟩=some (.bool ((rd_T72 l a).f3)):=g4 3 _ rfl
        rw[←s.out]at B1
        have P2:g3.frozen? ⟨c,(a:Int).toNat * 4,none⟩=false:=g5 0
        have P3:g3.frozen? ⟨c,(a:Int).toNat * 4 + 1,none⟩=false:=g5 1
        have P4:g3.frozen? ⟨c,(a:Int).toNat * 4 + 2,none⟩=false:=g5 2
        have P5:g3.frozen? ⟨c,(a:Int).toNat * 4 + 3,none⟩=false:=g5 3
        clear H2 g4 g5 E1;replace H1:=eq_true H1
        have E2:=am_ (show Kd.R k72 72 g3 a4.heap.size (fun k_=>(o k_∨w.heap.size≤k_)) (.slice (some ⟨c,0,none⟩) l.length h0) l from(qR_ q))
        obtain⟨Y4,x1,E3,m3,x2⟩:=Kd.R_elem E2.out z72 (a:Int) (of_decide_eq_true qa_) (by have h_:(a:Int)<((l.length:Int):Int):=of_decide_eq_true qa_;first|exact h_|(have e_:=(Kd.R_reads' q.out).1;omega)|simpa using h_)
        obtain rfl:=k72_openM E3
        have x3:=Kd.R_seg E2.out (a:Int) (of_decide_eq_true qa_) (by have h_:(a:Int)<((l.length:Int):Int):=of_decide_eq_true qa_;first|exact h_|(have e_:=(Kd.R_reads' q.out).1;omega)|simpa using h_) (seg:=[.bool true]) (j:=3) x1 m3 (show 4≤4 from by decide) (x' :=(⟨(rd_T72 l a).f0,(rd_T72 l a).f1,(rd_T72 l a).f2,true⟩:S72)) (k72_mkM _ _ _ (⟨(rd_T72 l a).f0,(rd_T72 l a).f1,(rd_T72 l a).f2,true⟩:S72) ) (fun _ hk=>hk)
        have ba:=m3 3 _ rfl
        simp only[show(k72).sz=4 from rfl,Nat.mul_one,Nat.add_zero]at ba
        have C8:=x2 3
        simp only[show(k72).sz=4 from rfl,Nat.mul_one,Nat.add_zero]at C8
        clear x1 m3 x2 E3
        try go_wp2_with (first|((with_reducible refine gate_store (t:=4) (p:=155) rfl ?_);refine store_event (t:=4) (p:=155) (v:= ?vo_w89) (w1:=(g3.setCell ⟨c,(a:Int).toNat * 4 + 3,none⟩ (.bool true))) ?hg ?ho ?hn ?hr ?_;(case ho=>rfl);(case hg=>rfl);(case hn=>rfl);(case hr=>first|(go_simp;done)|(go_simp;rfl));intro C9 hw;have hg:g3.grownBy C9 (some c):=(by rw[hw];exact x3.2);have hp_:Kd.R k72 72 C9 a4.heap.size (fun k_=>(o k_∨w.heap.size≤k_)) (.slice (some ⟨c,0,none⟩) l.length h0) j8:=(by rw[hw,m2.out];exact x3.1);clear x3;refine dn7_ (am_ (Kd.R_over' (v:=(.slice (some ⟨c,0,none⟩) l.length h0)) (qR_ E) (Kd.R_typed q.out) (by decide) hg)) (am_ (hp_)) (am_ (blk_grown (qk_ C) hg (Kd.R_ne q.out C.out (by decide)))) (am_ (blk_grown (qk_ G) hg (Kd.R_ne q.out G.out (by decide)))) (am_ (blk_grown (qk_ D) hg (Kd.R_ne q.out D.out (by decide)))) (am_ ((by rw[hw];exact below_set (HB.out) c6.out:Below a4.heap.size a4 C9))) (am_ (Kept.of_grown (S:=(fun k_=>o k_)) hg (qK_) (fun k_ e_=>(q.out.1 k_ e_)))) ?_;clear E q C G D HB HK;intro E q C G D HB HK;clear hg hw hp_))
        replace E:=rd_ E;replace q:=rd_ q;replace C:=bd_ C;replace G:=bd_ G;replace D:=bd_ D;replace HK:=am_ (Kept.drew HK.out);replace HB:=hd_ HB
        have x4:=dp_ a
        have x5:a<(j8.length:Int):=(by have h_:(a:Int)<((l.length:Int):Int):=of_decide_eq_true qa_;first|(have e_:=(Kd.R_reads' q.out).1;omega)|simpa only[m2.out,List.length_set] using h_)
        have U1:((a:Int)<((l.length:Int):Int))=True:=eq_true (of_decide_eq_true qa_)
        obtain⟨H3,L6,j2,j3,j4,J3⟩:=at_T72 (Kd.R_reads' q.out).2.2 a x4 x5
        obtain rfl:(⟨c,0,none⟩:Addr)=H3:=(by injection L6)
        simp only[add_plain]at j2 j3 j4 J3
        simp only[add_plain]at *
        replace x4:=eq_true x4;replace x5:=eq_true x5
        have x6:=dp_ a
        have x7:a<(j8.length:Int):=(by have h_:(a:Int)<((l.length:Int):Int):=of_decide_eq_true qa_;first|(have e_:=(Kd.R_reads' q.out).1;omega)|simpa only[m2.out,List.length_set] using h_)
        have U2:((a:Int)<((l.length:Int):Int))=True:=eq_true (of_decide_eq_true qa_)
        obtain⟨H4,L7,L8,L9,M0,J4⟩:=at_T72 (Kd.R_reads' q.out).2.2 a x6 x7
        obtain rfl:(⟨c,0,none⟩:Addr)=H4:=(by injection L7)
        simp only[add_plain]at L8 L9 M0 J4
        simp only[add_plain]at *
        replace x6:=eq_true x6;replace x7:=eq_true x7
        refine start_ (n:=11) (S:=fun w' =>w'.cell? ⟨c,(a).toNat * 4,none⟩=some (.int .i64 ((rd_T72 j8 a).f0))∧w'.cell? ⟨c,(a).toNat * 4 + 1,none⟩=some (.int .i64 ((rd_T72 j8 a).f1))∧w'.cell? ⟨c,(a).toNat * 4 + 2,none⟩=some (.int .i64 ((rd_T72 j8 a).f2))∧w'.cell? ⟨c,(a).toNat * 4 + 3,none⟩=some (.bool ((rd_T72 j8 a).f3))∧w'.cell? ⟨c,(a).toNat * 4,none⟩=some (.int .i64 ((rd_T72 j8 a).f0))∧w'.cell? ⟨c,(a).toNat * 4 + 1,none⟩=some (.int .i64 ((rd_T72 j8 a).f1))∧w'.cell? ⟨c,(a).toNat * 4 + 2,none⟩=some (.int .i64 ((rd_T72 j8 a).f2))∧w'.cell? ⟨c,(a).toNat * 4 + 3,none⟩=some (.bool ((rd_T72 j8 a).f3))) (ds:=[]) (bm 11 0) (by kernel_rfl) rfl (by kernel_rfl) ⟨j2,j3,j4,J3,L8,L9,M0,J4⟩ (fun hHeld=> ?_);refine with_tabW impl_Web_look.tab20 impl_Web_look.bits20 (fun HT_ HW_=> ?_)
        generalize C9.drew=M1 at E q C G D HK HB j2 j3 j4 J3 L8 L9 M0 J4 hHeld ⊢
        refine pz_ 0 156 11 1 ?_;refine pz_ 1 157 11 3 ?_;refine pz_ 2 158 11 7 ?_;refine pz_ 4 160 11 23 ?_;refine pz_ 5 161 11 55 ?_;refine pz_ 6 162 11 119 ?_;refine tz8_ 3 159 11 127 ?_;refine tz8_ 7 163 11 255 ?_;refine pz_ 8 164 11 511 ?_
        refine o1_ 9 none 11 1023 (fun K hK=> ?_)
        have Y5:M1.cell? ⟨U,0,none⟩=some (.int .i64 C5):=bl_ D 0
        have U3:=blk_frozen D.out 0
        have cO:=j5.out;have cP:=I8.out;have cQ:=J8.out;have cR:=J9.out
        have Y6:M1.cell? ⟨U,1,none⟩=some (.int .i64 C6):=bl_ D 1
        have U4:=blk_frozen D.out 1
        have cS:=j5.out;have cT:=I8.out;have cU:=J8.out;have cV:=J9.out
        refine skip_ (w1:= ?_) (by rfl) rfl ?_ ?_
        rotate_left
        ·go_simp
         rfl
        have nb_:=Kd.own_blk (Kd.R_ne q.out D.out (by decide))
        refine hK.out _ _ ⟨((cell_far (p:=⟨U,_,none⟩) (nx_ nb_) _).trans (((cell_far (p:=⟨U,_,none⟩) (nx_ nb_) _).trans (hHeld.1)))),((cell_far (p:=⟨U,_,none⟩) (nx_ nb_) _).trans (((cell_far (p:=⟨U,_,none⟩) (nx_ nb_) _).trans (hHeld.2.1)))),((cell_far (p:=⟨U,_,none⟩) (nx_ nb_) _).trans (((cell_far (p:=⟨U,_,none⟩) (nx_ nb_) _).trans (hHeld.2.2.1)))),((cell_far (p:=⟨U,_,none⟩) (nx_ nb_) _).trans (((cell_far (p:=⟨U,_,none⟩) (nx_ nb_) _).trans (hHeld.2.2.2.1)))),((cell_far (p:=⟨U,_,none⟩) (nx_ nb_) _).trans (((cell_far (p:=⟨U,_,none⟩) (nx_ nb_) _).trans (hHeld.2.2.2.2.1)))),((cell_far (p:=⟨U,_,none⟩) (nx_ nb_) _).trans (((cell_far (p:=⟨U,_,none⟩) (nx_ nb_) _).trans (hHeld.2.2.2.2.2.1)))),((cell_far (p:=⟨U,_,none⟩) (nx_ nb_) _).trans (((cell_far (p:=⟨U,_,none⟩) (nx_ nb_) _).trans (hHeld.2.2.2.2.2.2.1)))),((cell_far (p:=⟨U,_,none⟩) (nx_ nb_) _).trans (((cell_far (p:=⟨U,_,none⟩) (nx_ nb_) _).trans (hHeld.2.2.2.2.2.2.2))))⟩ (fun hHeld=> ?_)
        clear hK K;refine pz_ 10 7 11 2047 ?_
        refine done_ (done_of HT_.out (by kernel_rfl)) ?_
        try go_wp2
        refine bodyPost_ret (results_ct rfl _ _ U 43 #[.int .i64 ((rd_T72 j8 a).f0),.int .i64 ((rd_T72 j8 a).f1)] (0,0) _ rfl (qp_ D) Try.underlying43 rfl (by kernel_rfl)) rfl ?_
        exact⟨by first|rfl|(simp [errW_none,errW_some]<;>rfl)|(simp only[←d9];first|rfl|(simp [errW_none,errW_some]<;>rfl))|(simp [*,errW_none,errW_some]<;>rfl),(by first|exact(by(with_reducible repeat(first|apply Kd.R_alloc|apply Kd.R_drewN|apply Kd.R_drew));exact Kd.R_mono (Kd.R_far (p:=⟨U,1,none⟩) (Kd.R_far (p:=⟨U,0,none⟩) (Kd.R_types q.out D.out (by decide)) (fun _ hk=>hk.2) (.int .i64 ((rd_T72 j8 a).f0))) (fun _ hk=>hk.2) (.int .i64 ((rd_T72 j8 a).f1))) (fun _ hk=>hk.1))|(simp only[d,i];exact(by(with_reducible repeat(first|apply Kd.R_alloc|apply Kd.R_drewN|apply Kd.R_drew));exact Kd.R_mono (Kd.R_far (p:=⟨U,1,none⟩) (Kd.R_far (p:=⟨U,0,none⟩) (Kd.R_types q.out D.out (by decide)) (fun _ hk=>hk.2) (.int .i64 ((rd_T72 j8 a).f0))) (fun _ hk=>hk.2) (.int .i64 ((rd_T72 j8 a).f1))) (fun _ hk=>hk.1)))),qB_,qK_⟩
       have G3:((rd B ((rd_T72 l a).f0))==I)=false:=beq_eq_false_iff_ne.mpr s5
       have G4:((rd B ((rd_T72 l a).f0)) != I)=true:=bne_iff_ne.mpr s5
       refine ig_ H ?_;clear H;intro U5 H
       refine ig_ H ?_;clear H;intro U6 H
       refine jb_ H ?_ ?_<;>clear H<;>intro x8 H
       ·have H5:((rd B ((rd_T72 l a).f1))==I)=false:=beq_eq_false_iff_ne.mpr x8
        have H6:((rd B ((rd_T72 l a).f1)) != I)=true:=bne_iff_ne.mpr x8
        have H' :=am_ H;clear H;obtain⟨cW,B3⟩:=nn_ n1;obtain⟨B4,B5⟩:=nn_ j5
        obtain⟨u5,u6,u7,u8⟩:=bc2_ C
        have X:=dp_ a
        have Y:(a:Int)<((l.length:Int):Int):=of_decide_eq_true qa_
        obtain⟨c,J0,h5,h6,a5,h7,O⟩:=Kd.R_form q.out (by omega)
        (first|cases h5|(injection h5 with ea_ en_ ec_;(first|subst ea_|(injection ea_ with ea_;subst ea_));subst ec_;clear en_))
        have c6:=am_ h6
        have h8:=am_ O
        clear h6 a5 O
        have c0:=am_ (show(o c∨w.heap.size≤c) from(q.out.1 _ rfl))
        obtain⟨h9,Z,T,u,x⟩:=Kd.R_elem q.out z72 (a:Int) X Y
        obtain rfl:=k72_openM T
        have J1:wr.cell? ⟨c,(a:Int).toNat * 4,none⟩=some (.int .i64 ((rd_T72 l a).f0)):=u 0 _ rfl
        have J2:wr.cell? ⟨c,(a:Int).toNat * 4 + 1,none⟩=some (.int .i64 ((rd_T72 l a).f1)):=u 1 _ rfl
        have l2:wr.cell? ⟨c,(a:Int).toNat * 4 + 2,none⟩=some (.int .i64 ((rd_T72 l a).f2)):=u 2 _ rfl
        have l3:wr.cell? ⟨c,(a:Int).toNat * 4 + 3,none⟩=some (.bool ((rd_T72 l a).f3)):=u 3 _ rfl
        rw[←s.out]at l3
        have c1:wr.frozen? ⟨c,(a:Int).toNat * 4,none⟩=false:=x 0
        have c2:wr.frozen? ⟨c,(a:Int).toNat * 4 + 1,none⟩=false:=x 1
        have c3:wr.frozen? ⟨c,(a:Int).toNat * 4 + 2,none⟩=false:=x 2
        have c4:wr.frozen? ⟨c,(a:Int).toNat * 4 + 3,none⟩=false:=x 3
        clear Z u x T;replace X:=eq_true X;replace Y:=eq_true Y
        have a6:=dt_ a
        have a7:=du_ a l.length
        obtain⟨a0,a8,e0,e1,e2,c5⟩:=at_T72 (Kd.R_reads' q.out).2.2 a (ot_ a6) (ot_ a7)
        rw[←s.out]at c5
        obtain rfl:(⟨c,0,none⟩:Addr)=a0:=(by injection a8)
        simp only[add_plain]at e0 e1 e2 c5
        simp only[add_plain]at *
        have b5:=dt_ a
        have b6:=du_ a l.length
        obtain⟨a2,b7,f7,f8,f9,d0⟩:=at_T72 (Kd.R_reads' q.out).2.2 a (ot_ b5) (ot_ b6)
        rw[←s.out]at d0
        obtain rfl:(⟨c,0,none⟩:Addr)=a2:=(by injection b7)
        simp only[add_plain]at f7 f8 f9 d0
        simp only[add_plain]at *
        have d1:=dt_ a
        have d2:=du_ a l.length
        obtain⟨a9,d3,i5,i6,i7,e6⟩:=at_T72 (Kd.R_reads' q.out).2.2 a (ot_ d1) (ot_ d2)
        rw[←s.out]at e6
        obtain rfl:(⟨c,0,none⟩:Addr)=a9:=(by injection d3)
        simp only[add_plain]at i5 i6 i7 e6
        simp only[add_plain]at *
        have d4:=dt_ (((rd_T72 l a).f0))
        have d5:=du_ ((rd_T72 l a).f0) B.length
        obtain⟨b0,d6,O7⟩:=Kd.at_int (Kd.R_reads' E.out).2.2 ((rd_T72 l a).f0) (ot_ d4) (ot_ d5)
        obtain rfl:y=b0:=(by injection d6)
        have j9:=dt_ a
        have k0:=du_ a l.length
        obtain⟨g6,k1,x9,y0,y1,o6⟩:=at_T72 (Kd.R_reads' q.out).2.2 a (ot_ j9) (ot_ k0)
        rw[←s.out]at o6
        obtain rfl:(⟨c,0,none⟩:Addr)=g6:=(by injection k1)
        simp only[add_plain]at x9 y0 y1 o6
        simp only[add_plain]at *
        have k2:=dt_ (((rd_T72 l a).f1))
        have k3:=du_ ((rd_T72 l a).f1) B.length
        obtain⟨g7,k4,Y7⟩:=Kd.at_int (Kd.R_reads' E.out).2.2 ((rd_T72 l a).f1) (ot_ k2) (ot_ k3)
        obtain rfl:y=g7:=(by injection k4)
        go_wp2
        simp only[←i]
        go_roundg L4
        case measure=>have:=j6.out;have:=HK2.out;have:=HK3.out;omega
        case rel=>exact⟨(wrap64 (a + 1)),(l),(C5),(C6),qe_,H',⟨by have:=j6.out;have:=HK2.out;have:=HK3.out;omega⟩,⟨by(with_reducible repeat(first|apply Kd.R_alloc|apply Kd.R_drewN|apply Kd.R_drew));first|exact E.out|(have h_:=E.out;simp only[own_slice]at h_ ⊢;exact h_)⟩,⟨by simp only[i];(with_reducible repeat(first|apply Kd.R_alloc|apply Kd.R_drewN|apply Kd.R_drew));first|exact q.out|(have h_:=q.out;simp only[own_slice]at h_ ⊢;exact h_)⟩,⟨by simp only[i];exact qf_ C⟩,⟨by exact qf_ G⟩,⟨by exact qf_ D⟩,⟨qK_⟩,⟨qB_⟩⟩
       have H5:((rd B ((rd_T72 l a).f1))==I)=true:=beq_iff_eq.mpr x8
       have H6:((rd B ((rd_T72 l a).f1)) != I)=false:=bne_eq_false_iff_eq.mpr x8
       clear x8
       refine jc_ H ?_ ?_<;>clear H<;>intro y2 H
       ·have H7:((rd B ((rd_T72 l a).f0))==(rd B ((rd_T72 l a).f1)))=true:=beq_iff_eq.mpr y2
        have H8:((rd B ((rd_T72 l a).f0)) != (rd B ((rd_T72 l a).f1)))=false:=bne_eq_false_iff_eq.mpr y2
        clear y2
        generalize y3:(l.set (a:Int).toNat (⟨(rd_T72 l a).f0,(rd_T72 l a).f1,V,false⟩:S72))=Y8 at H;replace H:=bh_ H;have H9:=am_ y3.symm;clear y3;have H' :=am_ H;clear H;obtain⟨cX,cY⟩:=nn_ n1;obtain⟨cZ,da⟩:=nn_ j5
        obtain⟨u9,v0,v1,v2⟩:=bc2_ C
        have X:=dp_ a
        have Y:(a:Int)<((l.length:Int):Int):=of_decide_eq_true qa_
        obtain⟨c,J0,h5,h6,a5,h7,O⟩:=Kd.R_form q.out (by omega)
        (first|cases h5|(injection h5 with ea_ en_ ec_;(first|subst ea_|(injection ea_ with ea_;subst ea_));subst ec_;clear en_))
        have c6:=am_ h6
        have h8:=am_ O
        clear h6 a5 O
        have c0:=am_ (show(o c∨w.heap.size≤c) from(q.out.1 _ rfl))
        obtain⟨h9,Z,T,u,x⟩:=Kd.R_elem q.out z72 (a:Int) X Y
        obtain rfl:=k72_openM T
        have J1:wr.cell? ⟨c,(a:Int).toNat * 4,none⟩=some (.int .i64 ((rd_T72 l a).f0)):=u 0 _ rfl
        have J2:wr.cell? ⟨c,(a:Int).toNat * 4 + 1,none⟩=some (.int .i64 ((rd_T72 l a).f1)):=u 1 _ rfl
        have l2:wr.cell? ⟨c,(a:Int).toNat * 4 + 2,none⟩=some (.int .i64 ((rd_T72 l a).f2)):=u 2 _ rfl
        have l3:wr.cell? ⟨c,(a:Int).toNat * 4 + 3,none⟩=some (.bool ((rd_T72 l a).f3)):=u 3 _ rfl
        rw[←s.out]at l3
        have c1:wr.frozen? ⟨c,(a:Int).toNat * 4,none⟩=false:=x 0
        have c2:wr.frozen? ⟨c,(a:Int).toNat * 4 + 1,none⟩=false:=x 1
        have c3:wr.frozen? ⟨c,(a:Int).toNat * 4 + 2,none⟩=false:=x 2
        have c4:wr.frozen? ⟨c,(a:Int).toNat * 4 + 3,none⟩=false:=x 3
        clear Z u x T;replace X:=eq_true X;replace Y:=eq_true Y
        have a6:=dt_ a
        have a7:=du_ a l.length
        obtain⟨a0,a8,e0,e1,e2,c5⟩:=at_T72 (Kd.R_reads' q.out).2.2 a (ot_ a6) (ot_ a7)
        rw[←s.out]at c5
        obtain rfl:(⟨c,0,none⟩:Addr)=a0:=(by injection a8)
        simp only[add_plain]at e0 e1 e2 c5
        simp only[add_plain]at *
        have b5:=dt_ a
        have b6:=du_ a l.length
        obtain⟨a2,b7,f7,f8,f9,d0⟩:=at_T72 (Kd.R_reads' q.out).2.2 a (ot_ b5) (ot_ b6)
        rw[←s.out]at d0
        obtain rfl:(⟨c,0,none⟩:Addr)=a2:=(by injection b7)
        simp only[add_plain]at f7 f8 f9 d0
        simp only[add_plain]at *
        have d1:=dt_ a
        have d2:=du_ a l.length
        obtain⟨a9,d3,i5,i6,i7,e6⟩:=at_T72 (Kd.R_reads' q.out).2.2 a (ot_ d1) (ot_ d2)
        rw[←s.out]at e6
        obtain rfl:(⟨c,0,none⟩:Addr)=a9:=(by injection d3)
        simp only[add_plain]at i5 i6 i7 e6
        simp only[add_plain]at *
        have d4:=dt_ (((rd_T72 l a).f0))
        have d5:=du_ ((rd_T72 l a).f0) B.length
        obtain⟨b0,d6,O7⟩:=Kd.at_int (Kd.R_reads' E.out).2.2 ((rd_T72 l a).f0) (ot_ d4) (ot_ d5)
        obtain rfl:y=b0:=(by injection d6)
        have j9:=dt_ a
        have k0:=du_ a l.length
        obtain⟨g6,k1,x9,y0,y1,o6⟩:=at_T72 (Kd.R_reads' q.out).2.2 a (ot_ j9) (ot_ k0)
        rw[←s.out]at o6
        obtain rfl:(⟨c,0,none⟩:Addr)=g6:=(by injection k1)
        simp only[add_plain]at x9 y0 y1 o6
        simp only[add_plain]at *
        have k2:=dt_ (((rd_T72 l a).f1))
        have k3:=du_ ((rd_T72 l a).f1) B.length
        obtain⟨g7,k4,Y7⟩:=Kd.at_int (Kd.R_reads' E.out).2.2 ((rd_T72 l a).f1) (ot_ k2) (ot_ k3)
        obtain rfl:y=g7:=(by injection k4)
        try go_wp2
        replace E:=rd_ E;replace q:=rd_ q;replace C:=bd_ C;replace G:=bd_ G;replace D:=bd_ D;replace HK:=am_ (Kept.drew HK.out);replace HB:=hd_ HB
        have y4:=dt_ a
        have y5:=du_ a l.length
        obtain⟨m4,y6,y7,y8,y9,p6⟩:=at_T72 (Kd.R_reads' q.out).2.2 a (ot_ y4) (ot_ y5)
        rw[←s.out]at p6
        obtain rfl:(⟨c,0,none⟩:Addr)=m4:=(by injection y6)
        simp only[add_plain]at y7 y8 y9 p6
        simp only[add_plain]at *
        have z0:=dt_ (((rd_T72 l a).f0))
        have z1:=du_ ((rd_T72 l a).f0) B.length
        obtain⟨m5,z2,M2⟩:=Kd.at_int (Kd.R_reads' E.out).2.2 ((rd_T72 l a).f0) (ot_ z0) (ot_ z1)
        obtain rfl:y=m5:=(by injection z2)
        have z3:=dt_ a
        have z4:=du_ a l.length
        obtain⟨m6,z5,z6,z7,z8,p7⟩:=at_T72 (Kd.R_reads' q.out).2.2 a (ot_ z3) (ot_ z4)
        rw[←s.out]at p7
        obtain rfl:(⟨c,0,none⟩:Addr)=m6:=(by injection z5)
        simp only[add_plain]at z6 z7 z8 p7
        simp only[add_plain]at *
        have z9:=dt_ (((rd_T72 l a).f1))
        have A0:=du_ ((rd_T72 l a).f1) B.length
        obtain⟨m7,A1,M3⟩:=Kd.at_int (Kd.R_reads' E.out).2.2 ((rd_T72 l a).f1) (ot_ z9) (ot_ A0)
        obtain rfl:y=m7:=(by injection A1)
        refine start_ (n:=15) (S:=fun w' =>w'.cell? ⟨c,(a).toNat * 4,none⟩=some (.int .i64 ((rd_T72 l a).f0))∧w'.cell? ⟨c,(a).toNat * 4 + 1,none⟩=some (.int .i64 ((rd_T72 l a).f1))∧w'.cell? ⟨c,(a).toNat * 4 + 2,none⟩=some (.int .i64 ((rd_T72 l a).f2))∧w'.cell? ⟨c,(a).toNat * 4 + 3,none⟩=some (.bool (false))∧w'.cell? (y.add (((rd_T72 l a).f0)).toNat)=some (.int .i64 (rd B ((rd_T72 l a).f0)))∧w'.cell? ⟨c,(a).toNat * 4,none⟩=some (.int .i64 ((rd_T72 l a).f0))∧w'.cell? ⟨c,(a).toNat * 4 + 1,none⟩=some (.int .i64 ((rd_T72 l a).f1))∧w'.cell? ⟨c,(a).toNat * 4 + 2,none⟩=some (.int .i64 ((rd_T72 l a).f2))∧w'.cell? ⟨c,(a).toNat * 4 + 3,none⟩=some (.bool (false))∧w'.cell? (y.add (((rd_T72 l a).f1)).toNat)=some (.int .i64 (rd B ((rd_T72 l a).f1)))) (ds:=[]) (bm 15 0) (by kernel_rfl) rfl (by kernel_rfl) ⟨y7,y8,y9,p6,M2,z6,z7,z8,p7,M3⟩ (fun hHeld=> ?_);refine with_tabW impl_Web_look.tab18 impl_Web_look.bits18 (fun HT_ HW_=> ?_)
        generalize wr.drew=b8 at E q C G D HK HB y7 y8 y9 p6 M2 z6 z7 z8 p7 M3 hHeld ⊢
        refine pz_ 0 138 15 1 ?_;refine pz_ 1 139 15 3 ?_;refine pz_ 2 140 15 7 ?_;refine pz_ 3 141 15 15 ?_;refine pz_ 7 145 15 143 ?_;refine pz_ 8 146 15 399 ?_;refine pz_ 9 147 15 911 ?_;refine pz_ 10 148 15 1935 ?_;refine tz10_ 4 142 (bm 15 1951) ?_;refine pz_ 5 143 15 1983 ?_;refine tz10_ 6 144 (bm 15 2047) ?_;refine tz10_ 11 149 (bm 15 4095) ?_;refine pz_ 12 150 15 8191 ?_;refine tz10_ 13 151 (bm 15 16383) ?_;refine pz_ 14 152 15 32767 ?_
        refine done_ (done_of HT_.out (by kernel_rfl)) ?_
        have U7:=dt_ a
        have I0:(a:Int)<((l.length:Int):Int):=of_decide_eq_true qa_
        obtain⟨Y9,I1,E4,g8,g9⟩:=Kd.R_elem q.out z72 (a:Int) (ot_ U7) I0
        obtain rfl:=k72_openM E4
        have B6:b8.cell? ⟨c,(a:Int).toNat * 4,none⟩=some (.int .i64 ((rd_T72 l a).f0)):=g8 0 _ rfl
        have db:b8.cell? ⟨c,(a:Int).toNat * 4 + 1,none⟩=some (.int .i64 ((rd_T72 l a).f1)):=g8 1 _ rfl
        have B8:b8.cell? ⟨c,(a:Int).toNat * 4 + 2,none⟩=some (.int .i64 ((rd_T72 l a).f2)):=g8 2 _ rfl
        have B9:b8.cell? ⟨c,(a:Int).toNat * 4 + 3,none⟩=some (.bool ((rd_T72 l a).f3)):=g8 3 _ rfl
        rw[←s.out]at B9
        have P6:b8.frozen? ⟨c,(a:Int).toNat * 4,none⟩=false:=g9 0
        have P7:b8.frozen? ⟨c,(a:Int).toNat * 4 + 1,none⟩=false:=g9 1
        have P8:b8.frozen? ⟨c,(a:Int).toNat * 4 + 2,none⟩=false:=g9 2
        have P9:b8.frozen? ⟨c,(a:Int).toNat * 4 + 3,none⟩=false:=g9 3
        clear I1 g8 g9 E4;replace I0:=eq_true I0
        have A2:=am_ (show Kd.R k72 72 b8 a4.heap.size (fun k_=>(o k_∨w.heap.size≤k_)) (.slice (some ⟨c,0,none⟩) l.length h0) l from(qR_ q))
        obtain⟨U8,o7,A3,i8,o8⟩:=Kd.R_elem A2.out z72 (a:Int) (of_decide_eq_true qa_) (by have h_:(a:Int)<((l.length:Int):Int):=of_decide_eq_true qa_;first|exact h_|(have e_:=(Kd.R_reads' q.out).1;omega)|simpa using h_)
        obtain rfl:=k72_openM A3
        have m8:=Kd.R_seg A2.out (a:Int) (of_decide_eq_true qa_) (by have h_:(a:Int)<((l.length:Int):Int):=of_decide_eq_true qa_;first|exact h_|(have e_:=(Kd.R_reads' q.out).1;omega)|simpa using h_) (seg:=[.int .i64 V]) (j:=2) o7 i8 (show 3≤4 from by decide) (x' :=(⟨(rd_T72 l a).f0,(rd_T72 l a).f1,V,false⟩:S72)) (by have e_:false=(List.getD l (a).toNat z72).f3:=s.out;rw[←e_];exact k72_mkM _ _ _ (⟨(rd_T72 l a).f0,(rd_T72 l a).f1,V,false⟩:S72)) (fun _ hk=>hk)
        have bb:=i8 2 _ rfl
        simp only[show(k72).sz=4 from rfl,Nat.mul_one,Nat.add_zero]at bb
        have A4:=o8 2
        simp only[show(k72).sz=4 from rfl,Nat.mul_one,Nat.add_zero]at A4
        clear o7 i8 o8 A3
        try go_wp2_with (first|((with_reducible refine gate_store (t:=3) (p:=168) rfl ?_);refine store_event (t:=3) (p:=168) (v:= ?vo_w103) (w1:=(b8.setCell ⟨c,(a:Int).toNat * 4 + 2,none⟩ (.int .i64 V))) ?hg ?ho ?hn ?hr ?_;(case ho=>rfl);(case hg=>rfl);(case hn=>rfl);(case hr=>first|(go_simp;done)|(go_simp;rfl));intro A5 hw;have hg:b8.grownBy A5 (some c):=(by rw[hw];exact m8.2);have hp_:Kd.R k72 72 A5 a4.heap.size (fun k_=>(o k_∨w.heap.size≤k_)) (.slice (some ⟨c,0,none⟩) l.length h0) Y8:=(by rw[hw,H9.out];exact m8.1);clear m8;refine dn7_ (am_ (Kd.R_over' (v:=(.slice (some ⟨c,0,none⟩) l.length h0)) (qR_ E) (Kd.R_typed q.out) (by decide) hg)) (am_ (hp_)) (am_ (blk_grown (qk_ C) hg (Kd.R_ne q.out C.out (by decide)))) (am_ (blk_grown (qk_ G) hg (Kd.R_ne q.out G.out (by decide)))) (am_ (blk_grown (qk_ D) hg (Kd.R_ne q.out D.out (by decide)))) (am_ ((by rw[hw];exact below_set (HB.out) c6.out:Below a4.heap.size a4 A5))) (am_ (Kept.of_grown (S:=(fun k_=>o k_)) hg (qK_) (fun k_ e_=>(q.out.1 k_ e_)))) ?_;clear E q C G D HB HK;intro E q C G D HB HK;clear hg hw hp_))
        simp only[←i]
        go_roundg L4
        case measure=>have:=j6.out;have:=HK2.out;have:=HK3.out;omega
        case rel=>exact⟨(wrap64 (a + 1)),(Y8),(C5),(C6),qe_,H',⟨by have:=j6.out;have:=HK2.out;have:=HK3.out;omega⟩,⟨by(with_reducible repeat(first|apply Kd.R_alloc|apply Kd.R_drewN|apply Kd.R_drew));first|exact E.out|(have h_:=E.out;simp only[own_slice]at h_ ⊢;exact h_)⟩,⟨by simp only[i];(with_reducible repeat(first|apply Kd.R_alloc|apply Kd.R_drewN|apply Kd.R_drew));first|exact q.out|(have h_:=q.out;simp only[own_slice]at h_ ⊢;exact h_)⟩,⟨by simp only[i];exact qf_ C⟩,⟨by exact qf_ G⟩,⟨by exact qf_ D⟩,⟨qK_⟩,⟨qB_⟩⟩
       have H7:((rd B ((rd_T72 l a).f0))==(rd B ((rd_T72 l a).f1)))=false:=beq_eq_false_iff_ne.mpr y2
       have H8:((rd B ((rd_T72 l a).f0)) != (rd B ((rd_T72 l a).f1)))=true:=bne_iff_ne.mpr y2
       generalize A6:(l.set (a:Int).toNat (⟨(rd_T72 l a).f0,(rd_T72 l a).f1,(rd_T72 l a).f2,true⟩:S72))=k5 at H;replace H:=bh_ H;have m9:=am_ A6.symm;clear A6
       simp only[Option.some.injEq,Prod.mk.injEq]at H
       obtain⟨rfl,rfl,rfl,rfl⟩:=H
       obtain⟨dc,dd⟩:=nn_ n1;obtain⟨de,df⟩:=nn_ j5
       obtain⟨v3,v4,v5,v6⟩:=bc2_ C
       have X:=dp_ a
       have Y:(a:Int)<((l.length:Int):Int):=of_decide_eq_true qa_
       obtain⟨c,J0,h5,h6,a5,h7,O⟩:=Kd.R_form q.out (by omega)
       (first|cases h5|(injection h5 with ea_ en_ ec_;(first|subst ea_|(injection ea_ with ea_;subst ea_));subst ec_;clear en_))
       have c6:=am_ h6
       have h8:=am_ O
       clear h6 a5 O
       have c0:=am_ (show(o c∨w.heap.size≤c) from(q.out.1 _ rfl))
       obtain⟨h9,Z,T,u,x⟩:=Kd.R_elem q.out z72 (a:Int) X Y
       obtain rfl:=k72_openM T
       have J1:wr.cell? ⟨c,(a:Int).toNat * 4,none⟩=some (.int .i64 ((rd_T72 l a).f0)):=u 0 _ rfl
       have J2:wr.cell? ⟨c,(a:Int).toNat * 4 + 1,none⟩=some (.int .i64 ((rd_T72 l a).f1)):=u 1 _ rfl
       have l2:wr.cell? ⟨c,(a:Int).toNat * 4 + 2,none⟩=some (.int .i64 ((rd_T72 l a).f2)):=u 2 _ rfl
       have l3:wr.cell? ⟨c,(a:Int).toNat * 4 + 3,none⟩=some (.bool ((rd_T72 l a).f3)):=u 3 _ rfl
       rw[←s.out]at l3
       have c1:wr.frozen? ⟨c,(a:Int).toNat * 4,none⟩=false:=x 0
       have c2:wr.frozen? ⟨c,(a:Int).toNat * 4 + 1,none⟩=false:=x 1
       have c3:wr.frozen? ⟨c,(a:Int).toNat * 4 + 2,none⟩=false:=x 2
       have c4:wr.frozen? ⟨c,(a:Int).toNat * 4 + 3,none⟩=false:=x 3
       clear Z u x T;replace X:=eq_true X;replace Y:=eq_true Y
       have a6:=dt_ a
       have a7:=du_ a l.length
       obtain⟨a0,a8,e0,e1,e2,c5⟩:=at_T72 (Kd.R_reads' q.out).2.2 a (ot_ a6) (ot_ a7)
       rw[←s.out]at c5
       obtain rfl:(⟨c,0,none⟩:Addr)=a0:=(by injection a8)
       simp only[add_plain]at e0 e1 e2 c5
       simp only[add_plain]at *
       have b5:=dt_ a
       have b6:=du_ a l.length
       obtain⟨a2,b7,f7,f8,f9,d0⟩:=at_T72 (Kd.R_reads' q.out).2.2 a (ot_ b5) (ot_ b6)
       rw[←s.out]at d0
       obtain rfl:(⟨c,0,none⟩:Addr)=a2:=(by injection b7)
       simp only[add_plain]at f7 f8 f9 d0
       simp only[add_plain]at *
       have d1:=dt_ a
       have d2:=du_ a l.length
       obtain⟨a9,d3,i5,i6,i7,e6⟩:=at_T72 (Kd.R_reads' q.out).2.2 a (ot_ d1) (ot_ d2)
       rw[←s.out]at e6
       obtain rfl:(⟨c,0,none⟩:Addr)=a9:=(by injection d3)
       simp only[add_plain]at i5 i6 i7 e6
       simp only[add_plain]at *
       have d4:=dt_ (((rd_T72 l a).f0))
       have d5:=du_ ((rd_T72 l a).f0) B.length
       obtain⟨b0,d6,O7⟩:=Kd.at_int (Kd.R_reads' E.out).2.2 ((rd_T72 l a).f0) (ot_ d4) (ot_ d5)
       obtain rfl:y=b0:=(by injection d6)
       have j9:=dt_ a
       have k0:=du_ a l.length
       obtain⟨g6,k1,x9,y0,y1,o6⟩:=at_T72 (Kd.R_reads' q.out).2.2 a (ot_ j9) (ot_ k0)
       rw[←s.out]at o6
       obtain rfl:(⟨c,0,none⟩:Addr)=g6:=(by injection k1)
       simp only[add_plain]at x9 y0 y1 o6
       simp only[add_plain]at *
       have k2:=dt_ (((rd_T72 l a).f1))
       have k3:=du_ ((rd_T72 l a).f1) B.length
       obtain⟨g7,k4,Y7⟩:=Kd.at_int (Kd.R_reads' E.out).2.2 ((rd_T72 l a).f1) (ot_ k2) (ot_ k3)
       obtain rfl:y=g7:=(by injection k4)
       try go_wp2
       replace E:=rd_ E;replace q:=rd_ q;replace C:=bd_ C;replace G:=bd_ G;replace D:=bd_ D;replace HK:=am_ (Kept.drew HK.out);replace HB:=hd_ HB
       have y4:=dt_ a
       have y5:=du_ a l.length
       obtain⟨m4,y6,y7,y8,y9,p6⟩:=at_T72 (Kd.R_reads' q.out).2.2 a (ot_ y4) (ot_ y5)
       rw[←s.out]at p6
       obtain rfl:(⟨c,0,none⟩:Addr)=m4:=(by injection y6)
       simp only[add_plain]at y7 y8 y9 p6
       simp only[add_plain]at *
       have z0:=dt_ (((rd_T72 l a).f0))
       have z1:=du_ ((rd_T72 l a).f0) B.length
       obtain⟨m5,z2,M2⟩:=Kd.at_int (Kd.R_reads' E.out).2.2 ((rd_T72 l a).f0) (ot_ z0) (ot_ z1)
       obtain rfl:y=m5:=(by injection z2)
       have z3:=dt_ a
       have z4:=du_ a l.length
       obtain⟨m6,z5,z6,z7,z8,p7⟩:=at_T72 (Kd.R_reads' q.out).2.2 a (ot_ z3) (ot_ z4)
       rw[←s.out]at p7
       obtain rfl:(⟨c,0,none⟩:Addr)=m6:=(by injection z5)
       simp only[add_plain]at z6 z7 z8 p7
       simp only[add_plain]at *
       have z9:=dt_ (((rd_T72 l a).f1))
       have A0:=du_ ((rd_T72 l a).f1) B.length
       obtain⟨m7,A1,M3⟩:=Kd.at_int (Kd.R_reads' E.out).2.2 ((rd_T72 l a).f1) (ot_ z9) (ot_ A0)
       obtain rfl:y=m7:=(by injection A1)
       refine start_ (n:=15) (S:=fun w' =>w'.cell? ⟨c,(a).toNat * 4,none⟩=some (.int .i64 ((rd_T72 l a).f0))∧w'.cell? ⟨c,(a).toNat * 4 + 1,none⟩=some (.int .i64 ((rd_T72 l a).f1))∧w'.cell? ⟨c,(a).toNat * 4 + 2,none⟩=some (.int .i64 ((rd_T72 l a).f2))∧w'.cell? ⟨c,(a).toNat * 4 + 3,none⟩=some (.bool (false))∧w'.cell? (y.add (((rd_T72 l a).f0)).toNat)=some (.int .i64 (rd B ((rd_T72 l a).f0)))∧w'.cell? ⟨c,(a).toNat * 4,none⟩=some (.int .i64 ((rd_T72 l a).f0))∧w'.cell? ⟨c,(a).toNat * 4 + 1,none⟩=some (.int .i64 ((rd_T72 l a).f1))∧w'.cell? ⟨c,(a).toNat * 4 + 2,none⟩=some (.int .i64 ((rd_T72 l a).f2))∧w'.cell? ⟨c,(a).toNat * 4 + 3,none⟩=some (.bool (false))∧w'.cell? (y.add (((rd_T72 l a).f1)).toNat)=some (.int .i64 (rd B ((rd_T72 l a).f1)))) (ds:=[]) (bm 15 0) (by kernel_rfl) rfl (by kernel_rfl) ⟨y7,y8,y9,p6,M2,z6,z7,z8,p7,M3⟩ (fun hHeld=> ?_);refine with_tabW impl_Web_look.tab18 impl_Web_look.bits18 (fun HT_ HW_=> ?_)
       generalize wr.drew=b9 at E q C G D HK HB y7 y8 y9 p6 M2 z6 z7 z8 p7 M3 hHeld ⊢
       refine pz_ 0 138 15 1 ?_;refine pz_ 1 139 15 3 ?_;refine pz_ 2 140 15 7 ?_;refine pz_ 3 141 15 15 ?_;refine pz_ 7 145 15 143 ?_;refine pz_ 8 146 15 399 ?_;refine pz_ 9 147 15 911 ?_;refine pz_ 10 148 15 1935 ?_;refine tz10_ 4 142 (bm 15 1951) ?_;refine pz_ 5 143 15 1983 ?_;refine tz10_ 6 144 (bm 15 2047) ?_;refine tz10_ 11 149 (bm 15 4095) ?_;refine pz_ 12 150 15 8191 ?_;refine tz10_ 13 151 (bm 15 16383) ?_;refine pz_ 14 152 15 32767 ?_
       refine done_ (done_of HT_.out (by kernel_rfl)) ?_
       have M4:=dt_ a
       have A7:(a:Int)<((l.length:Int):Int):=of_decide_eq_true qa_
       obtain⟨U9,D0,A8,d7,d8⟩:=Kd.R_elem q.out z72 (a:Int) (ot_ M4) A7
       obtain rfl:=k72_openM A8
       have dg:b9.cell? ⟨c,(a:Int).toNat * 4,none⟩=some (.int .i64 ((rd_T72 l a).f0)):=d7 0 _ rfl
       have dh:b9.cell? ⟨c,(a:Int).toNat * 4 + 1,none⟩=some (.int .i64 ((rd_T72 l a).f1)):=d7 1 _ rfl
       have di:b9.cell? ⟨c,(a:Int).toNat * 4 + 2,none⟩=some (.int .i64 ((rd_T72 l a).f2)):=d7 2 _ rfl
       have bc:b9.cell? ⟨c,(a:Int).toNat * 4 + 3,none⟩=some (.bool ((rd_T72 l a).f3)):=d7 3 _ rfl
       rw[←s.out]at bc
       have M5:b9.frozen? ⟨c,(a:Int).toNat * 4,none⟩=false:=d8 0
       have M6:b9.frozen? ⟨c,(a:Int).toNat * 4 + 1,none⟩=false:=d8 1
       have M7:b9.frozen? ⟨c,(a:Int).toNat * 4 + 2,none⟩=false:=d8 2
       have M8:b9.frozen? ⟨c,(a:Int).toNat * 4 + 3,none⟩=false:=d8 3
       clear D0 d7 d8 A8;replace A7:=eq_true A7
       have A9:=am_ (show Kd.R k72 72 b9 a4.heap.size (fun k_=>(o k_∨w.heap.size≤k_)) (.slice (some ⟨c,0,none⟩) l.length h0) l from(qR_ q))
       obtain⟨V0,o9,B0,i9,p0⟩:=Kd.R_elem A9.out z72 (a:Int) (of_decide_eq_true qa_) (by have h_:(a:Int)<((l.length:Int):Int):=of_decide_eq_true qa_;first|exact h_|(have e_:=(Kd.R_reads' q.out).1;omega)|simpa using h_)
       obtain rfl:=k72_openM B0
       have n0:=Kd.R_seg A9.out (a:Int) (of_decide_eq_true qa_) (by have h_:(a:Int)<((l.length:Int):Int):=of_decide_eq_true qa_;first|exact h_|(have e_:=(Kd.R_reads' q.out).1;omega)|simpa using h_) (seg:=[.bool true]) (j:=3) o9 i9 (show 4≤4 from by decide) (x' :=(⟨(rd_T72 l a).f0,(rd_T72 l a).f1,(rd_T72 l a).f2,true⟩:S72)) (k72_mkM _ _ _ (⟨(rd_T72 l a).f0,(rd_T72 l a).f1,(rd_T72 l a).f2,true⟩:S72) ) (fun _ hk=>hk)
       have bd:=i9 3 _ rfl
       simp only[show(k72).sz=4 from rfl,Nat.mul_one,Nat.add_zero]at bd
       have B2:=p0 3
       simp only[show(k72).sz=4 from rfl,Nat.mul_one,Nat.add_zero]at B2
       clear o9 i9 p0 B0
       try go_wp2_with (first|((with_reducible refine gate_store (t:=4) (p:=155) rfl ?_);refine store_event (t:=4) (p:=155) (v:= ?vo_w110) (w1:=(b9.setCell ⟨c,(a:Int).toNat * 4 + 3,none⟩ (.bool true))) ?hg ?ho ?hn ?hr ?_;(case ho=>rfl);(case hg=>rfl);(case hn=>rfl);(case hr=>first|(go_simp;done)|(go_simp;rfl));intro p1 hw;have hg:b9.grownBy p1 (some c):=(by rw[hw];exact n0.2);have hp_:Kd.R k72 72 p1 a4.heap.size (fun k_=>(o k_∨w.heap.size≤k_)) (.slice (some ⟨c,0,none⟩) l.length h0) k5:=(by rw[hw,m9.out];exact n0.1);clear n0;refine dn7_ (am_ (Kd.R_over' (v:=(.slice (some ⟨c,0,none⟩) l.length h0)) (qR_ E) (Kd.R_typed q.out) (by decide) hg)) (am_ (hp_)) (am_ (blk_grown (qk_ C) hg (Kd.R_ne q.out C.out (by decide)))) (am_ (blk_grown (qk_ G) hg (Kd.R_ne q.out G.out (by decide)))) (am_ (blk_grown (qk_ D) hg (Kd.R_ne q.out D.out (by decide)))) (am_ ((by rw[hw];exact below_set (HB.out) c6.out:Below a4.heap.size a4 p1))) (am_ (Kept.of_grown (S:=(fun k_=>o k_)) hg (qK_) (fun k_ e_=>(q.out.1 k_ e_)))) ?_;clear E q C G D HB HK;intro E q C G D HB HK;clear hg hw hp_))
       replace E:=rd_ E;replace q:=rd_ q;replace C:=bd_ C;replace G:=bd_ G;replace D:=bd_ D;replace HK:=am_ (Kept.drew HK.out);replace HB:=hd_ HB
       have B7:=dp_ a
       have C0:a<(k5.length:Int):=(by have h_:(a:Int)<((l.length:Int):Int):=of_decide_eq_true qa_;first|(have e_:=(Kd.R_reads' q.out).1;omega)|simpa only[m9.out,List.length_set] using h_)
       have V1:((a:Int)<((l.length:Int):Int))=True:=eq_true (of_decide_eq_true qa_)
       obtain⟨I2,M9,N0,N1,N2,J5⟩:=at_T72 (Kd.R_reads' q.out).2.2 a B7 C0
       obtain rfl:(⟨c,0,none⟩:Addr)=I2:=(by injection M9)
       simp only[add_plain]at N0 N1 N2 J5
       simp only[add_plain]at *
       replace B7:=eq_true B7;replace C0:=eq_true C0
       have C1:=dp_ a
       have C2:a<(k5.length:Int):=(by have h_:(a:Int)<((l.length:Int):Int):=of_decide_eq_true qa_;first|(have e_:=(Kd.R_reads' q.out).1;omega)|simpa only[m9.out,List.length_set] using h_)
       have V2:((a:Int)<((l.length:Int):Int))=True:=eq_true (of_decide_eq_true qa_)
       obtain⟨I3,N3,N4,N5,N6,J6⟩:=at_T72 (Kd.R_reads' q.out).2.2 a C1 C2
       obtain rfl:(⟨c,0,none⟩:Addr)=I3:=(by injection N3)
       simp only[add_plain]at N4 N5 N6 J6
       simp only[add_plain]at *
       replace C1:=eq_true C1;replace C2:=eq_true C2
       refine start_ (n:=11) (S:=fun w' =>w'.cell? ⟨c,(a).toNat * 4,none⟩=some (.int .i64 ((rd_T72 k5 a).f0))∧w'.cell? ⟨c,(a).toNat * 4 + 1,none⟩=some (.int .i64 ((rd_T72 k5 a).f1))∧w'.cell? ⟨c,(a).toNat * 4 + 2,none⟩=some (.int .i64 ((rd_T72 k5 a).f2))∧w'.cell? ⟨c,(a).toNat * 4 + 3,none⟩=some (.bool ((rd_T72 k5 a).f3))∧w'.cell? ⟨c,(a).toNat * 4,none⟩=some (.int .i64 ((rd_T72 k5 a).f0))∧w'.cell? ⟨c,(a).toNat * 4 + 1,none⟩=some (.int .i64 ((rd_T72 k5 a).f1))∧w'.cell? ⟨c,(a).toNat * 4 + 2,none⟩=some (.int .i64 ((rd_T72 k5 a).f2))∧w'.cell? ⟨c,(a).toNat * 4 + 3,none⟩=some (.bool ((rd_T72 k5 a).f3))) (ds:=[]) (bm 11 0) (by kernel_rfl) rfl (by kernel_rfl) ⟨N0,N1,N2,J5,N4,N5,N6,J6⟩ (fun hHeld=> ?_);refine with_tabW impl_Web_look.tab20 impl_Web_look.bits20 (fun HT_ HW_=> ?_)
       generalize p1.drew=E5 at E q C G D HK HB N0 N1 N2 J5 N4 N5 N6 J6 hHeld ⊢
       refine pz_ 0 156 11 1 ?_;refine pz_ 1 157 11 3 ?_;refine pz_ 2 158 11 7 ?_;refine pz_ 4 160 11 23 ?_;refine pz_ 5 161 11 55 ?_;refine pz_ 6 162 11 119 ?_;refine tz8_ 3 159 11 127 ?_;refine tz8_ 7 163 11 255 ?_;refine pz_ 8 164 11 511 ?_
       refine o1_ 9 none 11 1023 (fun K hK=> ?_)
       have V3:E5.cell? ⟨U,0,none⟩=some (.int .i64 C5):=bl_ D 0
       have Q0:=blk_frozen D.out 0
       have v7:=j5.out;have v8:=I8.out;have dj:=J8.out;have dk:=J9.out
       have V4:E5.cell? ⟨U,1,none⟩=some (.int .i64 C6):=bl_ D 1
       have Q1:=blk_frozen D.out 1
       have dl:=j5.out;have dm:=I8.out;have dn:=J8.out;have dp:=J9.out
       refine skip_ (w1:= ?_) (by rfl) rfl ?_ ?_
       rotate_left
       ·go_simp
        rfl
       have nb_:=Kd.own_blk (Kd.R_ne q.out D.out (by decide))
       refine hK.out _ _ ⟨((cell_far (p:=⟨U,_,none⟩) (nx_ nb_) _).trans (((cell_far (p:=⟨U,_,none⟩) (nx_ nb_) _).trans (hHeld.1)))),((cell_far (p:=⟨U,_,none⟩) (nx_ nb_) _).trans (((cell_far (p:=⟨U,_,none⟩) (nx_ nb_) _).trans (hHeld.2.1)))),((cell_far (p:=⟨U,_,none⟩) (nx_ nb_) _).trans (((cell_far (p:=⟨U,_,none⟩) (nx_ nb_) _).trans (hHeld.2.2.1)))),((cell_far (p:=⟨U,_,none⟩) (nx_ nb_) _).trans (((cell_far (p:=⟨U,_,none⟩) (nx_ nb_) _).trans (hHeld.2.2.2.1)))),((cell_far (p:=⟨U,_,none⟩) (nx_ nb_) _).trans (((cell_far (p:=⟨U,_,none⟩) (nx_ nb_) _).trans (hHeld.2.2.2.2.1)))),((cell_far (p:=⟨U,_,none⟩) (nx_ nb_) _).trans (((cell_far (p:=⟨U,_,none⟩) (nx_ nb_) _).trans (hHeld.2.2.2.2.2.1)))),((cell_far (p:=⟨U,_,none⟩) (nx_ nb_) _).trans (((cell_far (p:=⟨U,_,none⟩) (nx_ nb_) _).trans (hHeld.2.2.2.2.2.2.1)))),((cell_far (p:=⟨U,_,none⟩) (nx_ nb_) _).trans (((cell_far (p:=⟨U,_,none⟩) (nx_ nb_) _).trans (hHeld.2.2.2.2.2.2.2))))⟩ (fun hHeld=> ?_)
       clear hK K;refine pz_ 10 7 11 2047 ?_
       refine done_ (done_of HT_.out (by kernel_rfl)) ?_
       try go_wp2
       refine bodyPost_ret (results_ct rfl _ _ U 43 #[.int .i64 ((rd_T72 k5 a).f0),.int .i64 ((rd_T72 k5 a).f1)] (0,0) _ rfl (qp_ D) Try.underlying43 rfl (by kernel_rfl)) rfl ?_
       exact⟨by first|rfl|(simp [errW_none,errW_some]<;>rfl)|(simp only[←d9];first|rfl|(simp [errW_none,errW_some]<;>rfl))|(simp [*,errW_none,errW_some]<;>rfl),(by first|exact(by(with_reducible repeat(first|apply Kd.R_alloc|apply Kd.R_drewN|apply Kd.R_drew));exact Kd.R_mono (Kd.R_far (p:=⟨U,1,none⟩) (Kd.R_far (p:=⟨U,0,none⟩) (Kd.R_types q.out D.out (by decide)) (fun _ hk=>hk.2) (.int .i64 ((rd_T72 k5 a).f0))) (fun _ hk=>hk.2) (.int .i64 ((rd_T72 k5 a).f1))) (fun _ hk=>hk.1))|(simp only[d,i];exact(by(with_reducible repeat(first|apply Kd.R_alloc|apply Kd.R_drewN|apply Kd.R_drew));exact Kd.R_mono (Kd.R_far (p:=⟨U,1,none⟩) (Kd.R_far (p:=⟨U,0,none⟩) (Kd.R_types q.out D.out (by decide)) (fun _ hk=>hk.2) (.int .i64 ((rd_T72 k5 a).f0))) (fun _ hk=>hk.2) (.int .i64 ((rd_T72 k5 a).f1))) (fun _ hk=>hk.1)))),qB_,qK_⟩
end Go.Proofs.Ytbkklafkoegdpaa.QFnTakes

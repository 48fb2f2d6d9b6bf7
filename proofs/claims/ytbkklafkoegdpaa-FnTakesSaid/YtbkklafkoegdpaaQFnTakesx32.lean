import Derived.Test.YtbkklafkoegdpaaQFnTakesx22
import Derived.Test.YtbkklafkoegdpaaQFnTakesx30
import Derived.Test.YtbkklafkoegdpaaQFnTakesx31
namespace Go.Proofs.Ytbkklafkoegdpaa.QFnTakes
open Go.RowKit Go.Proofs.YtbkklafkoegdpaaW.PrintWords Go.Proofs.YtbkklafkoegdpaaW.PrintLast Go.Proofs.YtbkklafkoegdpaaW.PrintMore
set_option maxHeartbeats 8000000
set_option maxRecDepth 100000
set_option linter.unusedVariables false
set_option linter.unusedSimpArgs false
attribute [local go_sem high] eqA43
mutual
def laws_FnTakes.l0:Nat→Bool→Int→Int→List (S72)→Int→Int→Int→List (S72)→Int→Int→Option (Bool)
  |0,_,_,_,_,_,_,_,_,_,_=>none
  |k + 1,x11,x17,x716000,x716001,x717000,x717001,x731000,x731001,x732000,x732001=>if x17<(x731001.length:Int) then (laws_FnTakes.l1 k x11 x17 0 x716000 x716001 x717000 x717001 x731000 x731001 x732000 x732001) else (laws_FnTakes.l2 k x11 false 0 x716000 x716001 x717000 x717001 x731000 x731001 x732000 x732001)
def laws_FnTakes.l1:Nat→Bool→Int→Int→Int→List (S72)→Int→Int→Int→List (S72)→Int→Int→Option (Bool)
  |0,_,_,_,_,_,_,_,_,_,_,_=>none
  |k + 1,x11,x17,x18,x716000,x716001,x717000,x717001,x731000,x731001,x732000,x732001=>if x18<(x716001.length:Int) then (if 0≤x17 then (if x17<(x731001.length:Int) then (if 0≤x18 then (if ((rd_T72 x731001 x17).f0)=((rd_T72 x716001 x18).f0) then (if ((rd_T72 x731001 x17).f1)=((rd_T72 x716001 x18).f1) then (if ((rd_T72 x731001 x17).f2)<((rd_T72 x716001 x18).f2) then (some false) else (laws_FnTakes.l1 k x11 x17 (wrap64 (x18 + 1)) x716000 x716001 x717000 x717001 x731000 x731001 x732000 x732001)) else (laws_FnTakes.l1 k x11 x17 (wrap64 (x18 + 1)) x716000 x716001 x717000 x717001 x731000 x731001 x732000 x732001)) else (laws_FnTakes.l1 k x11 x17 (wrap64 (x18 + 1)) x716000 x716001 x717000 x717001 x731000 x731001 x732000 x732001)) else (none)) else (none)) else (none)) else (laws_FnTakes.l0 k x11 (wrap64 (x17 + 1)) x716000 x716001 x717000 x717001 x731000 x731001 x732000 x732001)
def laws_FnTakes.l2:Nat→Bool→Bool→Int→Int→List (S72)→Int→Int→Int→List (S72)→Int→Int→Option (Bool)
  |0,_,_,_,_,_,_,_,_,_,_,_=>none
  |k + 1,x11,x19,x20,x716000,x716001,x717000,x717001,x731000,x731001,x732000,x732001=>if x20<(x716001.length:Int) then (if x19=true then (laws_FnTakes.l2 k x11 true (wrap64 (x20 + 1)) x716000 x716001 x717000 x717001 x731000 x731001 x732000 x732001) else (if 0≤x20 then (if ((rd_T72 x716001 x20).f0)=x717000 then (if ((rd_T72 x716001 x20).f1)=x717001 then (laws_FnTakes.l2 k x11 ((rd_T72 x716001 x20).f3) (wrap64 (x20 + 1)) x716000 x716001 x717000 x717001 x731000 x731001 x732000 x732001) else (laws_FnTakes.l2 k x11 false (wrap64 (x20 + 1)) x716000 x716001 x717000 x717001 x731000 x731001 x732000 x732001)) else (laws_FnTakes.l2 k x11 false (wrap64 (x20 + 1)) x716000 x716001 x717000 x717001 x731000 x731001 x732000 x732001)) else (none))) else ((impl_HeightOf.f k x731000 x731001).bind fun t752=>(if t752>2 then (some false) else (if x11=true then (if x19=true then ((impl_WebTogether.f k x731000 x731001 x717000 x717001).bind fun t753=>(if t753=true then ((spec_GraphOf.f k x731000 x731001).bind fun bt754=>((laws_has.f k bt754.2 x732000 x732001).bind fun t758=>(some t758))) else (some false))) else (some false)) else ((impl_WebTogether.f k x731000 x731001 x717000 x717001).bind fun t759=>(some (t759==(!x19)))))))
end
def laws_FnTakes.f (k:Nat) (l0:List Int):Option (Bool):=(laws_big.f l0).bind fun t708=>(if t708=true then (some true) else ((spec_DrawRightWeb.f k l0).bind fun bt709=>((spec_GraphOf.f k bt709.1 bt709.2.1).bind fun bt717=>((spec_HasEdge.f k bt717.1 bt717.2 bt709.2.2.1 bt709.2.2.2).bind fun t721=>(if t721=true then ((impl_WebTake.f k bt709.1 bt709.2.1 bt709.2.2.1 bt709.2.2.2).bind fun bt722=>((spec_WebTake.f k bt709.1 bt709.2.1 bt709.2.2.1 bt709.2.2.2).bind fun bt732=>(if bt722.2.2.2.2.2=true then (if (bt722.2.2.2.2.1 != bt732.2.2.2.2.1)=true then (some false) else (if (!(bt722.2.2.1==bt732.2.2.1) || (!(bt722.2.2.2.1==bt732.2.2.2.1)))=true then (some false) else ((laws_sameWeb.f k bt722.1 bt722.2.1 bt732.1 bt732.2.1).bind fun t742=>(if t742=true then (laws_FnTakes.l0 k bt722.2.2.2.2.1 0 bt709.1 bt709.2.1 bt709.2.2.1 bt709.2.2.2 bt722.1 bt722.2.1 bt722.2.2.1 bt722.2.2.2.1) else (some false))))) else (some false)))) else ((impl_WebTake.f k bt709.1 bt709.2.1 bt709.2.2.1 bt709.2.2.2).bind fun bt760=>(if bt760.2.2.2.2.2=true then (some false) else ((impl_WebOk.f k bt709.1 bt709.2.1).bind fun t770=>(some t770)))))))))
def laws_FnTakes.T17:Bool × List (List Nat × List Nat):=(true,[([],[]),([0],[0]),([],[]),([1,2],[1,2]),([3],[3]),([4],[4]),([],[]),([6],[6]),([],[]),([7,8],[7,8]),([9],[9]),([10],[10]),([5,11],[5,11]),([12],[12]),([13],[13]),([14,13],[13,14]),([13],[13]),([15,16,13],[13,15,16]),([17,13],[13,17]),([18,13],[13,18]),([13],[13]),([20,13],[13,20]),([13],[13]),([21,22,13],[13,21,22]),([23,13],[13,23]),([24,13],[13,24]),([19,25,13],[13,19,25]),([13,26],[13,26]),([27,13],[27]),([28],[28]),([29,28],[28,29]),([28],[28]),([30,31,28],[28,30,31]),([32,28],[28,32]),([33,28],[28,33]),([28],[28]),([35,28],[28,35]),([28],[28]),([36,37,28],[28,36,37]),([38,28],[28,38]),([39,28],[28,39]),([34,40,28],[28,34,40]),([28,41],[28,41])])
def laws_FnTakes.B17:List Nat:=[0,1,0,7,15,31,0,64,0,448,960,1984,4095,8191,16383,32767,16383,131071,262143,524287,16383,1064959,16383,7356415,15745023,32522239,67108863,134217727,268435455,536870911,1073741823,536870911,4294967295,8589934591,17179869183,536870911,34896609279,536870911,241055039487,515932946431,1065688760319,2199023255551,4398046511103]
theorem laws_FnTakes.tab17:rtab .any (opsOf Try.f11 17)=laws_FnTakes.T17:=by kernel_rfl
theorem laws_FnTakes.bits17:waitsOk laws_FnTakes.T17.2 laws_FnTakes.B17=true:=by kernel_rfl
def laws_FnTakes.T23:Bool × List (List Nat × List Nat):=(true,[([],[]),([0],[0]),([1],[1]),([2,1],[1,2]),([1],[1]),([3,4,1],[1,3,4]),([5,1],[1,5]),([6,1],[1,6]),([1],[1]),([8,1],[1,8]),([7,9,1],[1,7,9]),([10,1,1],[1,10]),([11],[11]),([12,11],[11,12]),([11],[11]),([13,14,11],[11,13,14]),([15,11],[11,15]),([16,11],[11,16]),([11],[11]),([18,11],[11,18]),([17,19,11],[11,17,19]),([11,20,1],[1,11,20]),([21,11,1],[1,21]),([22],[22]),([23,22],[22,23]),([22],[22]),([24,25,22],[22,24,25]),([26,22],[22,26]),([27,22],[22,27]),([22,28,1],[1,22,28]),([1,29],[1,29]),([30,22,0,1,2,3,4,5,6,7,8,9,10,11,12,13,14,15,16,17,18,19,20,21,22,23,24,25,26,27,28,29,30],[0,30])])
def laws_FnTakes.B23:List Nat:=[0,1,3,7,3,31,63,127,3,259,1023,2047,4095,8191,4095,32767,65535,131071,4095,266239,1048575,2097151,4194303,8388607,16777215,8388607,67108863,134217727,268435455,536870911,1073741823,2147483647]
theorem laws_FnTakes.tab23:rtab .any (opsOf Try.f11 23)=laws_FnTakes.T23:=by kernel_rfl
theorem laws_FnTakes.bits23:waitsOk laws_FnTakes.T23.2 laws_FnTakes.B23=true:=by kernel_rfl
def laws_FnTakes.T27:Bool × List (List Nat × List Nat):=(true,[([],[]),([0],[0]),([1],[1]),([1],[1]),([3,1],[1,3]),([1],[1]),([5,1],[1,5]),([2,4,6,1,1],[1,2,4,6]),([1,7],[1,7]),([8,7],[8]),([9],[9]),([10,9,9],[9,10]),([11,9],[9,11]),([9],[9]),([12,13,11,9],[9,12,13]),([9,14],[9,14]),([15,14,0,1,2,3,4,5,6,7,8,9,10,11,12,13,14,15],[15])])
def laws_FnTakes.B27:List Nat:=[0,1,3,3,11,3,35,127,255,511,1023,2047,4095,1023,16383,32767,65535]
theorem laws_FnTakes.tab27:rtab .any (opsOf Try.f11 27)=laws_FnTakes.T27:=by kernel_rfl
theorem laws_FnTakes.bits27:waitsOk laws_FnTakes.T27.2 laws_FnTakes.B27=true:=by kernel_rfl
theorem laws_FnTakes.calls (k:Nat) (m6:Option Addr) (m7:Nat) (l0:List Int) (w:World) (hr0:Kd.C (Kd.int .u8) w m6 l0.length l0) (hc0:l0.length≤m7) (h:laws_FnTakes.f k l0=some true):
  Calls Try.prog 11 #[.slice m6 l0.length m7] w fun e w' =>e= .returned (.bool true)∧Below w.heap.size w w' :=by
 have hu29:=Try.underlying29;have hu43:=Try.underlying43;have hu69:=Try.underlying69
 have n9:=am_ hr0
 have o0:=am_ hc0
 clear hr0 hc0
 have HB:=am_ (Below.refl w.heap.size w)
 have H:((laws_big.f l0).bind fun s6=>(if s6=true then (some true) else ((spec_DrawRightWeb.f k l0).bind fun b2=>((spec_GraphOf.f k b2.1 b2.2.1).bind fun z9=>((spec_HasEdge.f k z9.1 z9.2 b2.2.2.1 b2.2.2.2).bind fun A0=>(if A0=true then ((impl_WebTake.f k b2.1 b2.2.1 b2.2.2.1 b2.2.2.2).bind fun h3=>((spec_WebTake.f k b2.1 b2.2.1 b2.2.2.1 b2.2.2.2).bind fun o1=>(if h3.2.2.2.2.2=true then (if (h3.2.2.2.2.1 != o1.2.2.2.2.1)=true then (some false) else (if (!(h3.2.2.1==o1.2.2.1) || (!(h3.2.2.2.1==o1.2.2.2.1)))=true then (some false) else ((laws_sameWeb.f k h3.1 h3.2.1 o1.1 o1.2.1).bind fun A1=>(if A1=true then (laws_FnTakes.l0 k h3.2.2.2.2.1 0 b2.1 b2.2.1 b2.2.2.1 b2.2.2.2 h3.1 h3.2.1 h3.2.2.1 h3.2.2.2.1) else (some false))))) else (some false)))) else ((impl_WebTake.f k b2.1 b2.2.1 b2.2.2.1 b2.2.2.2).bind fun M9=>(if M9.2.2.2.2.2=true then (some false) else ((impl_WebOk.f k b2.1 b2.2.1).bind fun s7=>(some s7))))))))))=some true:=h
 clear h
 obtain⟨s6,s8,H⟩:=bs_ H
 by_cases n1:s6=true
 ·subst n1
  have A2:(some true:Option Bool)=some true:=rfl
  clear H;have H:=A2;clear A2 H
  go_enter Try.func11,Try.ntmps11
  go_wp2_with (first|((with_reducible refine gc_ 44 ?_);refine gl_ (some 22) Try.func44 #[.slice m6 l0.length m7] ?_;(with_reducible refine(laws_big.calls _ _ l0 true _ ?_ ?_ s8.out).mono ?_);exact qD_ n9.out;exact o0.out;rintro e w' ⟨rfl,⟨nd,rfl⟩⟩;refine⟨_,rfl,?_⟩))
  go_ret
  exact⟨qr_,qB_⟩
 replace n1:=Bool.eq_false_iff.mpr n1
 subst n1
 rw[if_neg ff_]at H
 obtain⟨⟨O,s,L,M⟩,A3,H⟩:=bs_ H;dsimp only at H
 obtain⟨⟨n2,n3⟩,A4,H⟩:=bs_ H;dsimp only at H
 obtain⟨A0,A5,H⟩:=bs_ H
 refine id_ H ?_ ?_<;>clear H<;>rintro rfl H
 ·obtain⟨⟨n4,m8,n5,n6,N0,cI⟩,N1,H⟩:=bs_ H;dsimp only at H
  refine ie_ H ?_ ?_<;>clear H<;>rintro rfl H
  ·exact absurd (oi_ H) (by decide)
  obtain⟨s7,N2,H⟩:=bs_ H
  obtain rfl:=oi_ H
  go_enter Try.func11,Try.ntmps11
  try go_wp2_with (first|((with_reducible refine gc_ 44 ?_);refine gl_ (some 22) Try.func44 #[.slice m6 l0.length m7] ?_;(with_reducible refine(laws_big.calls _ _ l0 false _ ?_ ?_ s8.out).mono ?_);exact qD_ n9.out;exact o0.out;rintro e w' ⟨rfl,⟨nd,rfl⟩⟩;refine⟨_,rfl,?_⟩)|((with_reducible refine gc_ 45 ?_);refine gl_ (some 25) Try.func45 #[.slice m6 l0.length m7] ?_;(with_reducible refine(spec_DrawRightWeb.calls k _ _ l0 O s L M _ ?_ ?_ A3.out).mono ?_);exact qD_ n9.out;exact o0.out;rintro e A6 ⟨N3,rfl,ho0,hb⟩;refine⟨_,rfl,?_⟩;have D:=am_ (Kd.R_lower ho0 (below_size qB_));replace HB:=hs_ hb;clear hb;(try clear hb2);clear ho0)|((with_reducible refine gd_ 3 ?_);refine by_ 3 (cs:= #[.int .i64 0,.slice none 0 0]) (t:=29) ?_;intro J hg A7 u hb;have u3:=gw_ hg;replace D:=kb_ D hb;replace HB:=hs_ hb;clear hb hg)|((with_reducible refine gd_ 4 ?_);refine by_ 4 (cs:= #[.int .i64 0,.int .i64 0]) (t:=43) ?_;intro T hg c0 x hb;have u4:=gw_ hg;obtain⟨f5,N4⟩:=qn_ u hg;replace D:=kb_ D hb;replace u:=qbl_ u hb;replace HB:=hs_ hb;clear hb hg;obtain⟨cJ,cK⟩:=nn_ f5;obtain⟨cL,cM,cN,cO⟩:=bc2_ u;obtain⟨h4,g3,N5⟩:=Kd.R_slice D.out;subst N5;obtain⟨cP,cQ,cR,cS⟩:=bc2_ x))
  have d8:Aside0 (Kd.R k72 72 ((((c0.setCell ⟨J,0,none⟩ (.int .i64 O)).setCell ⟨J,1,none⟩ (.slice h4 s.length g3)).setCell ⟨T,0,none⟩ (.int .i64 L)).setCell ⟨T,1,none⟩ (.int .i64 M)) w.heap.size (fun _=>True) (.slice h4 s.length g3) s):=⟨by(with_reducible repeat(first|apply Kd.R_alloc|apply Kd.R_drewN|apply Kd.R_drew));exact Kd.R_mono (Kd.R_far (p:=⟨T,1,none⟩) (Kd.R_far (p:=⟨T,0,none⟩) (Kd.R_far (p:=⟨J,1,none⟩) (Kd.R_far (p:=⟨J,0,none⟩) (Kd.R_types (Kd.R_types D.out u.out (by decide)) x.out (by decide)) (fun _ hk=>hk.1.2) (.int .i64 O)) (fun _ hk=>hk.1.2) (.slice h4 s.length g3)) (fun _ hk=>hk.2) (.int .i64 L)) (fun _ hk=>hk.2) (.int .i64 M)) (fun _ hk=>trivial)⟩
  have d9:Aside0 (((((c0.setCell ⟨J,0,none⟩ (.int .i64 O)).setCell ⟨J,1,none⟩ (.slice h4 s.length g3)).setCell ⟨T,0,none⟩ (.int .i64 L)).setCell ⟨T,1,none⟩ (.int .i64 M)).heap[J]? =some (.cells #[.int .i64 O,.slice h4 s.length g3] 29 (0,0))):=⟨qp_ u⟩
  have e0:Aside0 (((((c0.setCell ⟨J,0,none⟩ (.int .i64 O)).setCell ⟨J,1,none⟩ (.slice h4 s.length g3)).setCell ⟨T,0,none⟩ (.int .i64 L)).setCell ⟨T,1,none⟩ (.int .i64 M)).heap[T]? =some (.cells #[.int .i64 L,.int .i64 M] 43 (0,0))):=⟨qp_ x⟩
  have e1:Aside0 (Below w.heap.size w ((((c0.setCell ⟨J,0,none⟩ (.int .i64 O)).setCell ⟨J,1,none⟩ (.slice h4 s.length g3)).setCell ⟨T,0,none⟩ (.int .i64 L)).setCell ⟨T,1,none⟩ (.int .i64 M))):=⟨qB_⟩
  clear D u x HB
  generalize ((((c0.setCell ⟨J,0,none⟩ (.int .i64 O)).setCell ⟨J,1,none⟩ (.slice h4 s.length g3)).setCell ⟨T,0,none⟩ (.int .i64 L)).setCell ⟨T,1,none⟩ (.int .i64 M))=o2 at d8 d9 e0 e1 ⊢
  have D:=d8;have u:=d9;have x:=e0;have HB:=e1;clear d8 d9 e0 e1
  replace D:=rd_ D;replace u:=bd_ u;replace x:=bd_ x;replace HB:=hd_ HB
  refine start_ (n:=5) (S:=fun w' =>w'.cell? ⟨J,0,none⟩=some (.int .i64 O)∧w'.cell? ⟨J,1,none⟩=some (.slice h4 s.length g3)∧w'.cell? ⟨T,0,none⟩=some (.int .i64 L)∧w'.cell? ⟨T,1,none⟩=some (.int .i64 M)) (ds:=[]) (bm 5 0) (by kernel_rfl) rfl (by kernel_rfl) ⟨bl_ u 0,bl_ u 1,bl_ x 0,bl_ x 1⟩ (fun hHeld=> ?_)
  generalize o2.drew=A8 at D u x HB hHeld ⊢
  refine take_ (i:=0) (N:=some 28) (v:= ?_) (a' := ?_) (bm 5 1) rfl rfl (by kernel_rfl) (fun _ _ _ h=>h) (Or.inl ⟨by rfl,?_⟩) hHeld ?_ ?_
  rotate_left
  ·rintro w' ⟨s9,t0,t1,t2⟩
   go_simp
   with_reducible rfl
  rotate_left
  ·simp only[Act.put,sA_,sB_,sC_,i64_w,i32_w]
   rfl
  refine take_ (i:=2) (N:=some 30) (v:= ?_) (a' := ?_) (bm 5 5) rfl rfl (by kernel_rfl) (fun _ _ _ h=>h) (Or.inl ⟨by rfl,?_⟩) hHeld ?_ ?_
  rotate_left
  ·rintro w' ⟨s9,t0,t1,t2⟩
   go_simp
   with_reducible rfl
  rotate_left
  ·simp only[Act.put,sA_,sB_,sC_,i64_w,i32_w]
   rfl
  refine one_ (i:=1) (N:=some 29) (bm 5 7) rfl rfl (by kernel_rfl) (by decide) (fun K hK=> ?_)
  refine gs_ Try.func47 #[.agg #[.int .i64 O,.slice h4 s.length g3]] ?_
  with_reducible refine(spec_GraphOf.calls k O _ _ s n2 n3 _ ?side1 ?side2 A4.out).mono ?_
  (case side1=>exact qD_ (Kd.R_reads' D.out).2.2)
  (case side2=>exact(Kd.R_reads' D.out).2.1)
  rintro e A9 ⟨N6,rfl,ho0,hb⟩
  refine⟨_,rfl,?_⟩
  have V:=am_ (Kd.R_lower (Kd.R_newB ho0 (qk_ x)) (below_size qB_));replace D:=kb_ D hb;replace u:=qbl_ u hb;replace x:=qbl_ x hb;replace HB:=hs_ hb;clear hb ho0
  obtain⟨N7,N8,B0⟩:=Kd.R_slice V.out
  (first|subst B0|(injection B0 with c1 h5 c2;have h6:=c1.symm;have h7:=c2.symm;clear c1 h5 c2;subst h6;subst h7))
  refine hK.out _ _ ⟨bl_ u 0,bl_ u 1,bl_ x 0,bl_ x 1⟩ (fun hHeld=> ?_)
  clear hK K
  refine nm_ 29 ?_
  refine one_ (i:=3) (N:=some 31) (bm 5 15) rfl rfl (by kernel_rfl) (by decide) (fun K hK=> ?_)
  refine gs_ Try.func46 #[.agg #[.int .i64 n2,.slice N7 n3.length N8],.agg #[.int .i64 L,.int .i64 M]] ?_
  with_reducible refine(spec_HasEdge.calls k n2 _ _ n3 L M false _ ?side1 ?side2 A5.out).mono ?_
  (case side1=>exact qD_ (Kd.R_reads' V.out).2.2)
  (case side2=>exact(Kd.R_reads' V.out).2.1)
  rintro e B2 ⟨rfl,hb⟩
  refine⟨_,rfl,?_⟩
  replace D:=kb_ D hb;replace V:=kb_ V hb;replace u:=qbl_ u hb;replace x:=qbl_ x hb;replace HB:=hs_ hb;clear hb
  refine hK.out _ _ ⟨bl_ u 0,bl_ u 1,bl_ x 0,bl_ x 1⟩ (fun hHeld=> ?_)
  clear hK K
  refine nm_ 31 ?_
  refine pure_ (i:=4) (N:=some 32) (v:= ?_) (a' := ?_) (bm 5 31) rfl rfl (by kernel_rfl) (fun _ _ _ h=>h) (Or.inl ⟨by rfl,?_⟩) ?_ ?_
  rotate_left
  ·intro w'
   go_simp
   with_reducible rfl
  rotate_left
  ·simp only[Act.put,sA_,sB_,sC_,i64_w,i32_w]
   rfl
  refine done_ (by kernel_rfl) ?_
  obtain⟨cT,cU,cV,cW⟩:=bc2_ u
  obtain⟨cX,cY,cZ,da⟩:=bc2_ x
  try go_wp2_with (first|((with_reducible refine gc_ 42 ?_);refine gl_ (some 36) Try.func42 #[.agg #[.int .i64 O,.slice h4 s.length g3],.agg #[.int .i64 L,.int .i64 M]] ?_;(with_reducible refine(impl_WebTake.calls k O _ _ s L M n4 m8 n5 n6 N0 false _ ?_ ?_ N1.out).mono ?_);exact qD_ (Kd.R_reads' D.out).2.2;exact(Kd.R_reads' D.out).2.1;rintro e B7 ⟨N9,rfl,ho0,hb⟩;refine⟨_,rfl,?_⟩;have m9:=am_ (Kd.R_lower (Kd.R_new' ho0 (Kd.R_lt (qR_ D))) (below_size qB_));replace D:=ke_ D ho0 hb;replace V:=kb_ V hb;replace u:=qbl_ u hb;replace x:=qbl_ x hb;replace HB:=hs_ hb;clear hb ho0)|((with_reducible refine gd_ 5 ?_);refine by_ 5 (cs:= #[.int .i64 0,.slice none 0 0]) (t:=29) ?_;intro k0 hg C0 j8 hb;have db:=gw_ hg;obtain⟨dc,O0⟩:=qn_ u hg;obtain⟨dd,O1⟩:=qn_ x hg;replace D:=kb_ D hb;replace V:=kb_ V hb;replace m9:=kb_ m9 hb;replace u:=qbl_ u hb;replace x:=qbl_ x hb;replace HB:=hs_ hb;clear hb hg)|((with_reducible refine gd_ 6 ?_);refine by_ 6 (cs:= #[.int .i64 0,.int .i64 0]) (t:=43) ?_;intro h8 hg C1 n7 hb;have de:=gw_ hg;obtain⟨df,O2⟩:=qn_ u hg;obtain⟨dg,O3⟩:=qn_ x hg;obtain⟨O4,dh⟩:=qn_ j8 hg;replace D:=kb_ D hb;replace V:=am_ (Kd.R_below (Kd.R_elderB (qR_ V) h8 (Nat.le_of_eq hg.symm)) hb);replace m9:=kb_ m9 hb;replace u:=qbl_ u hb;replace x:=qbl_ x hb;replace j8:=qbl_ j8 hb;replace HB:=hs_ hb;clear hb hg;obtain⟨di,T1⟩:=nn_ O0;obtain⟨dj,T3⟩:=nn_ O1;obtain⟨T4,T5⟩:=nn_ O4;obtain⟨dk,dl,dm,dn⟩:=bc2_ j8;obtain⟨n8,l3,O5⟩:=Kd.R_slice m9.out;subst O5;obtain⟨T6,dp⟩:=nn_ O2;obtain⟨T8,T9⟩:=nn_ O3;obtain⟨dq,dr,dt,du⟩:=bc2_ n7;obtain⟨dv,dw,dx,dy⟩:=bc2_ u)|(go_at_call 16;(with_reducible refine(impl_WebOk.calls k O _ _ s true _ ?side1 ?side2 N2.out).mono ?_);(case side1=>refine(Kd.R_reads' (e:=72) (base:=w.heap.size) (ok:=fun k_=>(True∧some k_≠(.slice n8 m8.length l3:Value).ownBlock)) (n:=s.length) (c:=g3) ?_).2.2;exact(by(with_reducible repeat(first|apply Kd.R_alloc|apply Kd.R_drewN|apply Kd.R_drew));exact(Kd.R_mono (Kd.R_mono (Kd.R_far (p:=⟨h8,1,none⟩) (Kd.R_far (p:=⟨h8,0,none⟩) (Kd.R_far (p:=⟨k0,1,none⟩) (Kd.R_far (p:=⟨k0,0,none⟩) (Kd.R_types (Kd.R_types D.out j8.out (by decide)) n7.out (by decide)) (fun _ hk=>hk.1.2) (.int .i64 n4)) (fun _ hk=>hk.1.2) (.slice n8 m8.length l3)) (fun _ hk=>hk.2) (.int .i64 n5)) (fun _ hk=>hk.2) (.int .i64 n6)) (fun _ h_=>h_.1)) (fun _ h_=>h_.1))));(case side2=>exact(Kd.R_reads' D.out).2.1);rintro e C2 ⟨rfl,hb⟩;replace D:=am_ (Kd.R_below (by(with_reducible repeat(first|apply Kd.R_alloc|apply Kd.R_drewN|apply Kd.R_drew));exact(Kd.R_mono (Kd.R_mono (Kd.R_far (p:=⟨h8,1,none⟩) (Kd.R_far (p:=⟨h8,0,none⟩) (Kd.R_far (p:=⟨k0,1,none⟩) (Kd.R_far (p:=⟨k0,0,none⟩) (Kd.R_types (Kd.R_types D.out j8.out (by decide)) n7.out (by decide)) (fun _ hk=>hk.1.2) (.int .i64 n4)) (fun _ hk=>hk.1.2) (.slice n8 m8.length l3)) (fun _ hk=>hk.2) (.int .i64 n5)) (fun _ hk=>hk.2) (.int .i64 n6)) (fun _ h_=>h_.1)) (fun _ h_=>h_.1))) hb);replace V:=am_ (Kd.R_below (by(with_reducible repeat(first|apply Kd.R_alloc|apply Kd.R_drewN|apply Kd.R_drew));exact(Kd.R_mono (Kd.R_mono (Kd.R_far (p:=⟨h8,1,none⟩) (Kd.R_far (p:=⟨h8,0,none⟩) (Kd.R_far (p:=⟨k0,1,none⟩) (Kd.R_far (p:=⟨k0,0,none⟩) (Kd.R_mono (Kd.R_types V.out j8.out (by decide)) (fun k_ hk=>(⟨hk,hk.1.2⟩:_∧k_≠h8))) (fun _ hk=>hk.1.2) (.int .i64 n4)) (fun _ hk=>hk.1.2) (.slice n8 m8.length l3)) (fun _ hk=>hk.2) (.int .i64 n5)) (fun _ hk=>hk.2) (.int .i64 n6)) (fun _ h_=>h_.1)) (fun _ h_=>h_.1))) hb);replace m9:=am_ (Kd.R_below (by(with_reducible repeat(first|apply Kd.R_alloc|apply Kd.R_drewN|apply Kd.R_drew));exact(Kd.R_mono (Kd.R_mono (Kd.R_far (p:=⟨h8,1,none⟩) (Kd.R_far (p:=⟨h8,0,none⟩) (Kd.R_far (p:=⟨k0,1,none⟩) (Kd.R_far (p:=⟨k0,0,none⟩) (Kd.R_types (Kd.R_types m9.out j8.out (by decide)) n7.out (by decide)) (fun _ hk=>hk.1.2) (.int .i64 n4)) (fun _ hk=>hk.1.2) (.slice n8 m8.length l3)) (fun _ hk=>hk.2) (.int .i64 n5)) (fun _ hk=>hk.2) (.int .i64 n6)) (fun _ h_=>h_.1)) (fun _ h_=>h_.1))) hb);replace u:=qbl_ u hb;replace x:=qbl_ x hb;replace j8:=am_ (blk_below (g:=k0) (o:= .cells #[.int .i64 n4,.slice n8 m8.length l3] 29 (0,0)) (qp_ j8) hb);replace n7:=am_ (blk_below (g:=h8) (o:= .cells #[.int .i64 n5,.int .i64 n6] 43 (0,0)) (qp_ n7) hb);replace HB:=hs_ hb;clear hb))
  go_ret
  exact⟨qr_,qB_⟩
 obtain⟨⟨Y,y,b7,b8,h9,dz⟩,O6,H⟩:=bs_ H;dsimp only at H
 obtain⟨⟨g4,a0,g0,g1,k9,O7⟩,O8,H⟩:=bs_ H;dsimp only at H
 refine id_ H ?_ ?_<;>clear H<;>rintro rfl H
 ·exact absurd (oi_ H) (by decide)
 refine jc_ H ?_ ?_<;>clear H<;>intro a7 H
 ·have e2:(h9 != k9)=true:=a7
  (have e3:decide (h9=k9)=false:=by simpa using a7)
  (have e4:(h9==k9)=false:=by simpa using a7)
  (have t3:¬(h9=k9):=by simpa using a7)
  clear a7
  exact absurd (oi_ H) (by decide)
 have e2:(h9 != k9)=false:=by simpa using a7
 (have e3:decide (h9=k9)=true:=by simpa using a7)
 (have e4:(h9==k9)=true:=by simpa using a7)
 clear a7
 refine jc_ H ?_ ?_<;>clear H<;>intro g2 H
 ·have e5:(!(b7==g0) || (!(b8==g1)))=true:=g2
  clear g2
  exact absurd (oi_ H) (by decide)
 have e5:(!(b7==g0) || (!(b8==g1)))=false:=by simpa using g2
 clear g2
 obtain⟨A1,t4,H⟩:=bs_ H
 refine id_ H ?_ ?_<;>clear H<;>rintro rfl H
 ·exact absurd (oi_ H) (by decide)
 have H' :=am_ H;clear H
 go_enter Try.func11,Try.ntmps11
 try go_wp2_with (first|((with_reducible refine gc_ 44 ?_);refine gl_ (some 22) Try.func44 #[.slice m6 l0.length m7] ?_;(with_reducible refine(laws_big.calls _ _ l0 false _ ?_ ?_ s8.out).mono ?_);exact qD_ n9.out;exact o0.out;rintro e w' ⟨rfl,⟨nd,rfl⟩⟩;refine⟨_,rfl,?_⟩)|((with_reducible refine gc_ 45 ?_);refine gl_ (some 25) Try.func45 #[.slice m6 l0.length m7] ?_;(with_reducible refine(spec_DrawRightWeb.calls k _ _ l0 O s L M _ ?_ ?_ A3.out).mono ?_);exact qD_ n9.out;exact o0.out;rintro e C3 ⟨N3,rfl,ho0,hb⟩;refine⟨_,rfl,?_⟩;have D:=am_ (Kd.R_lower ho0 (below_size qB_));replace HB:=hs_ hb;clear hb ho0)|((with_reducible refine gd_ 3 ?_);refine by_ 3 (cs:= #[.int .i64 0,.slice none 0 0]) (t:=29) ?_;intro J hg C4 u hb;have u3:=gw_ hg;replace D:=kb_ D hb;replace HB:=hs_ hb;clear hb hg)|((with_reducible refine gd_ 4 ?_);refine by_ 4 (cs:= #[.int .i64 0,.int .i64 0]) (t:=43) ?_;intro T hg c3 x hb;have u4:=gw_ hg;obtain⟨f5,N4⟩:=qn_ u hg;replace D:=kb_ D hb;replace u:=qbl_ u hb;replace HB:=hs_ hb;clear hb hg;obtain⟨dA,dB⟩:=nn_ f5;obtain⟨C5,C6,C7,C8⟩:=bc2_ u;obtain⟨a1,U,O9⟩:=Kd.R_slice D.out;subst O9;obtain⟨C9,D0,D1,D2⟩:=bc2_ x))
 have d8:Aside0 (Kd.R k72 72 ((((c3.setCell ⟨J,0,none⟩ (.int .i64 O)).setCell ⟨J,1,none⟩ (.slice a1 s.length U)).setCell ⟨T,0,none⟩ (.int .i64 L)).setCell ⟨T,1,none⟩ (.int .i64 M)) w.heap.size (fun _=>True) (.slice a1 s.length U) s):=⟨by(with_reducible repeat(first|apply Kd.R_alloc|apply Kd.R_drewN|apply Kd.R_drew));exact Kd.R_mono (Kd.R_far (p:=⟨T,1,none⟩) (Kd.R_far (p:=⟨T,0,none⟩) (Kd.R_far (p:=⟨J,1,none⟩) (Kd.R_far (p:=⟨J,0,none⟩) (Kd.R_types (Kd.R_types D.out u.out (by decide)) x.out (by decide)) (fun _ hk=>hk.1.2) (.int .i64 O)) (fun _ hk=>hk.1.2) (.slice a1 s.length U)) (fun _ hk=>hk.2) (.int .i64 L)) (fun _ hk=>hk.2) (.int .i64 M)) (fun _ hk=>trivial)⟩
 have d9:Aside0 (((((c3.setCell ⟨J,0,none⟩ (.int .i64 O)).setCell ⟨J,1,none⟩ (.slice a1 s.length U)).setCell ⟨T,0,none⟩ (.int .i64 L)).setCell ⟨T,1,none⟩ (.int .i64 M)).heap[J]? =some (.cells #[.int .i64 O,.slice a1 s.length U] 29 (0,0))):=⟨qp_ u⟩
 have e0:Aside0 (((((c3.setCell ⟨J,0,none⟩ (.int .i64 O)).setCell ⟨J,1,none⟩ (.slice a1 s.length U)).setCell ⟨T,0,none⟩ (.int .i64 L)).setCell ⟨T,1,none⟩ (.int .i64 M)).heap[T]? =some (.cells #[.int .i64 L,.int .i64 M] 43 (0,0))):=⟨qp_ x⟩
 have e1:Aside0 (Below w.heap.size w ((((c3.setCell ⟨J,0,none⟩ (.int .i64 O)).setCell ⟨J,1,none⟩ (.slice a1 s.length U)).setCell ⟨T,0,none⟩ (.int .i64 L)).setCell ⟨T,1,none⟩ (.int .i64 M))):=⟨qB_⟩
 clear D u x HB
 generalize ((((c3.setCell ⟨J,0,none⟩ (.int .i64 O)).setCell ⟨J,1,none⟩ (.slice a1 s.length U)).setCell ⟨T,0,none⟩ (.int .i64 L)).setCell ⟨T,1,none⟩ (.int .i64 M))=o3 at d8 d9 e0 e1 ⊢
 have D:=d8;have u:=d9;have x:=e0;have HB:=e1;clear d8 d9 e0 e1
 replace D:=rd_ D;replace u:=bd_ u;replace x:=bd_ x;replace HB:=hd_ HB
 refine start_ (n:=5) (S:=fun w' =>w'.cell? ⟨J,0,none⟩=some (.int .i64 O)∧w'.cell? ⟨J,1,none⟩=some (.slice a1 s.length U)∧w'.cell? ⟨T,0,none⟩=some (.int .i64 L)∧w'.cell? ⟨T,1,none⟩=some (.int .i64 M)) (ds:=[]) (bm 5 0) (by kernel_rfl) rfl (by kernel_rfl) ⟨bl_ u 0,bl_ u 1,bl_ x 0,bl_ x 1⟩ (fun hHeld=> ?_)
 generalize o3.drew=D3 at D u x HB hHeld ⊢
 refine take_ (i:=0) (N:=some 28) (v:= ?_) (a' := ?_) (bm 5 1) rfl rfl (by kernel_rfl) (fun _ _ _ h=>h) (Or.inl ⟨by rfl,?_⟩) hHeld ?_ ?_
 rotate_left
 ·rintro w' ⟨s9,t0,t1,t2⟩
  go_simp
  with_reducible rfl
 rotate_left
 ·simp only[Act.put,sA_,sB_,sC_,i64_w,i32_w]
  rfl
 refine take_ (i:=2) (N:=some 30) (v:= ?_) (a' := ?_) (bm 5 5) rfl rfl (by kernel_rfl) (fun _ _ _ h=>h) (Or.inl ⟨by rfl,?_⟩) hHeld ?_ ?_
 rotate_left
 ·rintro w' ⟨s9,t0,t1,t2⟩
  go_simp
  with_reducible rfl
 rotate_left
 ·simp only[Act.put,sA_,sB_,sC_,i64_w,i32_w]
  rfl
 refine one_ (i:=1) (N:=some 29) (bm 5 7) rfl rfl (by kernel_rfl) (by decide) (fun K hK=> ?_)
 refine gs_ Try.func47 #[.agg #[.int .i64 O,.slice a1 s.length U]] ?_
 with_reducible refine(spec_GraphOf.calls k O _ _ s n2 n3 _ ?side1 ?side2 A4.out).mono ?_
 (case side1=>exact qD_ (Kd.R_reads' D.out).2.2)
 (case side2=>exact(Kd.R_reads' D.out).2.1)
 rintro e D4 ⟨N6,rfl,ho0,hb⟩
 refine⟨_,rfl,?_⟩
 have V:=am_ (Kd.R_lower (Kd.R_newB ho0 (qk_ x)) (below_size qB_));replace D:=kb_ D hb;replace u:=qbl_ u hb;replace x:=qbl_ x hb;replace HB:=hs_ hb;clear hb ho0
 obtain⟨P0,P1,D5⟩:=Kd.R_slice V.out
 (first|subst D5|(injection D5 with c1 h5 c2;have h6:=c1.symm;have h7:=c2.symm;clear c1 h5 c2;subst h6;subst h7))
 refine hK.out _ _ ⟨bl_ u 0,bl_ u 1,bl_ x 0,bl_ x 1⟩ (fun hHeld=> ?_)
 clear hK K
 refine nm_ 29 ?_
 refine one_ (i:=3) (N:=some 31) (bm 5 15) rfl rfl (by kernel_rfl) (by decide) (fun K hK=> ?_)
 refine gs_ Try.func46 #[.agg #[.int .i64 n2,.slice P0 n3.length P1],.agg #[.int .i64 L,.int .i64 M]] ?_
 with_reducible refine(spec_HasEdge.calls k n2 _ _ n3 L M true _ ?side1 ?side2 A5.out).mono ?_
 (case side1=>exact qD_ (Kd.R_reads' V.out).2.2)
 (case side2=>exact(Kd.R_reads' V.out).2.1)
 rintro e D6 ⟨rfl,hb⟩
 refine⟨_,rfl,?_⟩
 replace D:=kb_ D hb;replace V:=kb_ V hb;replace u:=qbl_ u hb;replace x:=qbl_ x hb;replace HB:=hs_ hb;clear hb
 refine hK.out _ _ ⟨bl_ u 0,bl_ u 1,bl_ x 0,bl_ x 1⟩ (fun hHeld=> ?_)
 clear hK K
 refine nm_ 31 ?_
 refine pure_ (i:=4) (N:=some 32) (v:= ?_) (a' := ?_) (bm 5 31) rfl rfl (by kernel_rfl) (fun _ _ _ h=>h) (Or.inl ⟨by rfl,?_⟩) ?_ ?_
 rotate_left
 ·intro w'
  go_simp
  with_reducible rfl
 rotate_left
 ·simp only[Act.put,sA_,sB_,sC_,i64_w,i32_w]
  rfl
 refine done_ (by kernel_rfl) ?_
 obtain⟨D7,D8,D9,E0⟩:=bc2_ u
 obtain⟨E1,E2,E3,E4⟩:=bc2_ x
 try go_wp2_with (first|((with_reducible refine gc_ 42 ?_);refine gl_ (some 50) Try.func42 #[.agg #[.int .i64 O,.slice a1 s.length U],.agg #[.int .i64 L,.int .i64 M]] ?_;(with_reducible refine(impl_WebTake.calls k O _ _ s L M Y y b7 b8 h9 true _ ?_ ?_ O6.out).mono ?_);exact qD_ (Kd.R_reads' D.out).2.2;exact(Kd.R_reads' D.out).2.1;rintro e E5 ⟨P2,rfl,ho0,hb⟩;refine⟨_,rfl,?_⟩;have c4:=am_ (Kd.R_lower (Kd.R_new' ho0 (Kd.R_lt (qR_ D))) (below_size qB_));replace D:=ke_ D ho0 hb;replace V:=kb_ V hb;replace u:=qbl_ u hb;replace x:=qbl_ x hb;replace HB:=hs_ hb;clear hb ho0)|((with_reducible refine gd_ 9 ?_);refine by_ 9 (cs:= #[.int .i64 0,.slice none 0 0]) (t:=29) ?_;intro a2 hg E6 z hb;have dC:=gw_ hg;obtain⟨i0,t5⟩:=qn_ u hg;obtain⟨dD,o4⟩:=qn_ x hg;replace D:=kb_ D hb;replace V:=kb_ V hb;replace c4:=kb_ c4 hb;replace u:=qbl_ u hb;replace x:=qbl_ x hb;replace HB:=hs_ hb;clear hb hg)|((with_reducible refine gd_ 10 ?_);refine by_ 10 (cs:= #[.int .i64 0,.int .i64 0]) (t:=43) ?_;intro b4 hg E7 A hb;have dE:=gw_ hg;obtain⟨i1,P3⟩:=qn_ u hg;obtain⟨P4,P5⟩:=qn_ x hg;obtain⟨o5,dF⟩:=qn_ z hg;replace D:=kb_ D hb;replace V:=am_ (Kd.R_below (Kd.R_elderB (qR_ V) b4 (Nat.le_of_eq hg.symm)) hb);replace c4:=kb_ c4 hb;replace u:=qbl_ u hb;replace x:=qbl_ x hb;replace z:=qbl_ z hb;replace HB:=hs_ hb;clear hb hg;obtain⟨dG,dH⟩:=nn_ t5;obtain⟨dI,dJ⟩:=nn_ o4;obtain⟨dK,dL⟩:=nn_ o5;obtain⟨E8,E9,F0,F1⟩:=bc2_ z;obtain⟨Z,X,P6⟩:=Kd.R_slice c4.out;subst P6;obtain⟨dM,dN⟩:=nn_ P3;obtain⟨dO,dP⟩:=nn_ P5;obtain⟨F2,F3,F4,F5⟩:=bc2_ A;obtain⟨F6,F7,F8,F9⟩:=bc2_ u;obtain⟨G0,G1,G2,G3⟩:=bc2_ x)|((with_reducible refine gc_ 41 ?_);refine gl_ (some 58) Try.func41 #[.agg #[.int .i64 O,.slice a1 s.length U],.agg #[.int .i64 L,.int .i64 M]] ?_;(with_reducible refine(spec_WebTake.calls k O _ _ s L M g4 a0 g0 g1 k9 O7 _ ?side1 ?side2 O8.out).mono ?_);(case side1=>refine(Kd.R_reads' (e:=72) (base:=w.heap.size) (ok:=fun k_=>(True∧some k_≠(.slice Z y.length X:Value).ownBlock)) (n:=s.length) (c:=U) ?_).2.2;exact(by(with_reducible repeat(first|apply Kd.R_alloc|apply Kd.R_drewN|apply Kd.R_drew));exact(Kd.R_mono (Kd.R_mono (Kd.R_far (p:=⟨b4,1,none⟩) (Kd.R_far (p:=⟨b4,0,none⟩) (Kd.R_far (p:=⟨a2,1,none⟩) (Kd.R_far (p:=⟨a2,0,none⟩) (Kd.R_types (Kd.R_types D.out z.out (by decide)) A.out (by decide)) (fun _ hk=>hk.1.2) (.int .i64 Y)) (fun _ hk=>hk.1.2) (.slice Z y.length X)) (fun _ hk=>hk.2) (.int .i64 b7)) (fun _ hk=>hk.2) (.int .i64 b8)) (fun _ h_=>h_.1)) (fun _ h_=>h_.1))));(case side2=>exact(Kd.R_reads' D.out).2.1);rintro e G4 ⟨P7,rfl,ho0,hb⟩;refine⟨_,rfl,?_⟩;have j9:=am_ (Kd.R_lower (Kd.R_new' (Kd.R_new' ho0 (Kd.R_lt (by(with_reducible repeat(first|apply Kd.R_alloc|apply Kd.R_drewN|apply Kd.R_drew));exact(Kd.R_mono (Kd.R_mono (Kd.R_far (p:=⟨b4,1,none⟩) (Kd.R_far (p:=⟨b4,0,none⟩) (Kd.R_far (p:=⟨a2,1,none⟩) (Kd.R_far (p:=⟨a2,0,none⟩) (Kd.R_types (Kd.R_types D.out z.out (by decide)) A.out (by decide)) (fun _ hk=>hk.1.2) (.int .i64 Y)) (fun _ hk=>hk.1.2) (.slice Z y.length X)) (fun _ hk=>hk.2) (.int .i64 b7)) (fun _ hk=>hk.2) (.int .i64 b8)) (fun _ h_=>h_.1)) (fun _ h_=>h_.1))))) (Kd.R_lt (by(with_reducible repeat(first|apply Kd.R_alloc|apply Kd.R_drewN|apply Kd.R_drew));exact(Kd.R_mono (Kd.R_mono (Kd.R_far (p:=⟨b4,1,none⟩) (Kd.R_far (p:=⟨b4,0,none⟩) (Kd.R_far (p:=⟨a2,1,none⟩) (Kd.R_far (p:=⟨a2,0,none⟩) (Kd.R_types (Kd.R_types c4.out z.out (by decide)) A.out (by decide)) (fun _ hk=>hk.1.2) (.int .i64 Y)) (fun _ hk=>hk.1.2) (.slice Z y.length X)) (fun _ hk=>hk.2) (.int .i64 b7)) (fun _ hk=>hk.2) (.int .i64 b8)) (fun _ h_=>h_.1)) (fun _ h_=>h_.1))))) (below_size qB_));replace D:=am_ (Kd.R_elder' (by(with_reducible repeat(first|apply Kd.R_alloc|apply Kd.R_drewN|apply Kd.R_drew));exact(Kd.R_mono (Kd.R_mono (Kd.R_far (p:=⟨b4,1,none⟩) (Kd.R_far (p:=⟨b4,0,none⟩) (Kd.R_far (p:=⟨a2,1,none⟩) (Kd.R_far (p:=⟨a2,0,none⟩) (Kd.R_types (Kd.R_types D.out z.out (by decide)) A.out (by decide)) (fun _ hk=>hk.1.2) (.int .i64 Y)) (fun _ hk=>hk.1.2) (.slice Z y.length X)) (fun _ hk=>hk.2) (.int .i64 b7)) (fun _ hk=>hk.2) (.int .i64 b8)) (fun _ h_=>h_.1)) (fun _ h_=>h_.1))) (Kd.R_base ho0) hb);replace V:=am_ (Kd.R_below (by(with_reducible repeat(first|apply Kd.R_alloc|apply Kd.R_drewN|apply Kd.R_drew));exact(Kd.R_mono (Kd.R_mono (Kd.R_far (p:=⟨b4,1,none⟩) (Kd.R_far (p:=⟨b4,0,none⟩) (Kd.R_far (p:=⟨a2,1,none⟩) (Kd.R_far (p:=⟨a2,0,none⟩) (Kd.R_mono (Kd.R_types V.out z.out (by decide)) (fun k_ hk=>(⟨hk,hk.1.2⟩:_∧k_≠b4))) (fun _ hk=>hk.1.2) (.int .i64 Y)) (fun _ hk=>hk.1.2) (.slice Z y.length X)) (fun _ hk=>hk.2) (.int .i64 b7)) (fun _ hk=>hk.2) (.int .i64 b8)) (fun _ h_=>h_.1)) (fun _ h_=>h_.1))) hb);replace c4:=am_ (Kd.R_elder' (by(with_reducible repeat(first|apply Kd.R_alloc|apply Kd.R_drewN|apply Kd.R_drew));exact(Kd.R_mono (Kd.R_mono (Kd.R_far (p:=⟨b4,1,none⟩) (Kd.R_far (p:=⟨b4,0,none⟩) (Kd.R_far (p:=⟨a2,1,none⟩) (Kd.R_far (p:=⟨a2,0,none⟩) (Kd.R_types (Kd.R_types c4.out z.out (by decide)) A.out (by decide)) (fun _ hk=>hk.1.2) (.int .i64 Y)) (fun _ hk=>hk.1.2) (.slice Z y.length X)) (fun _ hk=>hk.2) (.int .i64 b7)) (fun _ hk=>hk.2) (.int .i64 b8)) (fun _ h_=>h_.1)) (fun _ h_=>h_.1))) (Kd.R_base ho0) hb);replace u:=qbl_ u hb;replace x:=qbl_ x hb;replace z:=am_ (blk_below (g:=a2) (o:= .cells #[.int .i64 Y,.slice Z y.length X] 29 (0,0)) (qp_ z) hb);replace A:=am_ (blk_below (g:=b4) (o:= .cells #[.int .i64 b7,.int .i64 b8] 43 (0,0)) (qp_ A) hb);replace HB:=hs_ hb;clear hb ho0)|((with_reducible refine gd_ 13 ?_);refine by_ 13 (cs:= #[.int .i64 0,.slice none 0 0]) (t:=29) ?_;intro d7 hg G5 F hb;have dQ:=gw_ hg;obtain⟨i2,P8⟩:=qn_ u hg;obtain⟨P9,Q0⟩:=qn_ x hg;obtain⟨r6,Q1⟩:=qn_ z hg;obtain⟨dR,Q2⟩:=qn_ A hg;replace D:=kb_ D hb;replace V:=kb_ V hb;replace c4:=kb_ c4 hb;replace j9:=kb_ j9 hb;replace u:=qbl_ u hb;replace x:=qbl_ x hb;replace z:=qbl_ z hb;replace A:=qbl_ A hb;replace HB:=hs_ hb;clear hb hg)|((with_reducible refine gd_ 14 ?_);refine by_ 14 (cs:= #[.int .i64 0,.int .i64 0]) (t:=43) ?_;intro b9 hg G6 G hb;have dS:=gw_ hg;obtain⟨i3,Q3⟩:=qn_ u hg;obtain⟨Q4,u0⟩:=qn_ x hg;obtain⟨r7,u1⟩:=qn_ z hg;obtain⟨dT,u2⟩:=qn_ A hg;obtain⟨Q5,dU⟩:=qn_ F hg;replace D:=kb_ D hb;replace V:=am_ (Kd.R_below (Kd.R_elderB (qR_ V) b9 (Nat.le_of_eq hg.symm)) hb);replace c4:=kb_ c4 hb;replace j9:=kb_ j9 hb;replace u:=qbl_ u hb;replace x:=qbl_ x hb;replace z:=qbl_ z hb;replace A:=qbl_ A hb;replace F:=qbl_ F hb;replace HB:=hs_ hb;clear hb hg;obtain⟨dV,dW⟩:=nn_ P8;obtain⟨dX,dY⟩:=nn_ Q0;obtain⟨dZ,ea⟩:=nn_ Q1;obtain⟨eb,ec⟩:=nn_ Q2;obtain⟨ed,ee⟩:=nn_ Q5;obtain⟨G7,G8,G9,H0⟩:=bc2_ F;obtain⟨b5,b3,Q6⟩:=Kd.R_slice j9.out;subst Q6;obtain⟨ef,eg⟩:=nn_ Q3;obtain⟨eh,ei⟩:=nn_ u0;obtain⟨ej,ek⟩:=nn_ u1;obtain⟨el,em⟩:=nn_ u2;obtain⟨H1,H2,H3,H4⟩:=bc2_ G;obtain⟨H5,H6,H7,H8⟩:=bc2_ A;obtain⟨H9,I0,I1,I2⟩:=bc2_ z)|(go_at_call 48;(with_reducible refine(laws_sameWeb.calls k Y _ _ y g4 _ _ a0 true _ ?side1 ?side2 ?side3 ?side4 t4.out).mono ?_);(case side1=>refine(Kd.R_reads' (e:=72) (base:=w.heap.size) (ok:=fun k_=>((True∧some k_≠(.slice a1 s.length U:Value).ownBlock)∧some k_≠(.slice b5 a0.length b3:Value).ownBlock)) (n:=y.length) (c:=X) ?_).2.2;exact(by(with_reducible repeat(first|apply Kd.R_alloc|apply Kd.R_drewN|apply Kd.R_drew));exact(Kd.R_mono (Kd.R_mono (Kd.R_far (p:=⟨b9,1,none⟩) (Kd.R_far (p:=⟨b9,0,none⟩) (Kd.R_far (p:=⟨d7,1,none⟩) (Kd.R_far (p:=⟨d7,0,none⟩) (Kd.R_types (Kd.R_types c4.out F.out (by decide)) G.out (by decide)) (fun _ hk=>hk.1.2) (.int .i64 g4)) (fun _ hk=>hk.1.2) (.slice b5 a0.length b3)) (fun _ hk=>hk.2) (.int .i64 g0)) (fun _ hk=>hk.2) (.int .i64 g1)) (fun _ h_=>h_.1)) (fun _ h_=>h_.1))));(case side2=>exact(Kd.R_reads' c4.out).2.1);(case side3=>refine(Kd.R_reads' (e:=72) (base:=w.heap.size) (ok:=fun k_=>((True∧some k_≠(.slice a1 s.length U:Value).ownBlock)∧some k_≠(.slice Z y.length X:Value).ownBlock)) (n:=a0.length) (c:=b3) ?_).2.2;exact(by(with_reducible repeat(first|apply Kd.R_alloc|apply Kd.R_drewN|apply Kd.R_drew));exact(Kd.R_mono (Kd.R_mono (Kd.R_far (p:=⟨b9,1,none⟩) (Kd.R_far (p:=⟨b9,0,none⟩) (Kd.R_far (p:=⟨d7,1,none⟩) (Kd.R_far (p:=⟨d7,0,none⟩) (Kd.R_types (Kd.R_types j9.out F.out (by decide)) G.out (by decide)) (fun _ hk=>hk.1.2) (.int .i64 g4)) (fun _ hk=>hk.1.2) (.slice b5 a0.length b3)) (fun _ hk=>hk.2) (.int .i64 g0)) (fun _ hk=>hk.2) (.int .i64 g1)) (fun _ h_=>h_.1)) (fun _ h_=>h_.1))));(case side4=>exact(Kd.R_reads' j9.out).2.1);rintro e I3 ⟨rfl,hb⟩;replace D:=am_ (Kd.R_below (by(with_reducible repeat(first|apply Kd.R_alloc|apply Kd.R_drewN|apply Kd.R_drew));exact(Kd.R_mono (Kd.R_mono (Kd.R_far (p:=⟨b9,1,none⟩) (Kd.R_far (p:=⟨b9,0,none⟩) (Kd.R_far (p:=⟨d7,1,none⟩) (Kd.R_far (p:=⟨d7,0,none⟩) (Kd.R_types (Kd.R_types D.out F.out (by decide)) G.out (by decide)) (fun _ hk=>hk.1.2) (.int .i64 g4)) (fun _ hk=>hk.1.2) (.slice b5 a0.length b3)) (fun _ hk=>hk.2) (.int .i64 g0)) (fun _ hk=>hk.2) (.int .i64 g1)) (fun _ h_=>h_.1)) (fun _ h_=>h_.1))) hb);replace V:=am_ (Kd.R_below (by(with_reducible repeat(first|apply Kd.R_alloc|apply Kd.R_drewN|apply Kd.R_drew));exact(Kd.R_mono (Kd.R_mono (Kd.R_far (p:=⟨b9,1,none⟩) (Kd.R_far (p:=⟨b9,0,none⟩) (Kd.R_far (p:=⟨d7,1,none⟩) (Kd.R_far (p:=⟨d7,0,none⟩) (Kd.R_mono (Kd.R_types V.out F.out (by decide)) (fun k_ hk=>(⟨hk,hk.1.2⟩:_∧k_≠b9))) (fun _ hk=>hk.1.2) (.int .i64 g4)) (fun _ hk=>hk.1.2) (.slice b5 a0.length b3)) (fun _ hk=>hk.2) (.int .i64 g0)) (fun _ hk=>hk.2) (.int .i64 g1)) (fun _ h_=>h_.1)) (fun _ h_=>h_.1))) hb);replace c4:=am_ (Kd.R_below (by(with_reducible repeat(first|apply Kd.R_alloc|apply Kd.R_drewN|apply Kd.R_drew));exact(Kd.R_mono (Kd.R_mono (Kd.R_far (p:=⟨b9,1,none⟩) (Kd.R_far (p:=⟨b9,0,none⟩) (Kd.R_far (p:=⟨d7,1,none⟩) (Kd.R_far (p:=⟨d7,0,none⟩) (Kd.R_types (Kd.R_types c4.out F.out (by decide)) G.out (by decide)) (fun _ hk=>hk.1.2) (.int .i64 g4)) (fun _ hk=>hk.1.2) (.slice b5 a0.length b3)) (fun _ hk=>hk.2) (.int .i64 g0)) (fun _ hk=>hk.2) (.int .i64 g1)) (fun _ h_=>h_.1)) (fun _ h_=>h_.1))) hb);replace j9:=am_ (Kd.R_below (by(with_reducible repeat(first|apply Kd.R_alloc|apply Kd.R_drewN|apply Kd.R_drew));exact(Kd.R_mono (Kd.R_mono (Kd.R_far (p:=⟨b9,1,none⟩) (Kd.R_far (p:=⟨b9,0,none⟩) (Kd.R_far (p:=⟨d7,1,none⟩) (Kd.R_far (p:=⟨d7,0,none⟩) (Kd.R_types (Kd.R_types j9.out F.out (by decide)) G.out (by decide)) (fun _ hk=>hk.1.2) (.int .i64 g4)) (fun _ hk=>hk.1.2) (.slice b5 a0.length b3)) (fun _ hk=>hk.2) (.int .i64 g0)) (fun _ hk=>hk.2) (.int .i64 g1)) (fun _ h_=>h_.1)) (fun _ h_=>h_.1))) hb);replace u:=qbl_ u hb;replace x:=qbl_ x hb;replace z:=qbl_ z hb;replace A:=qbl_ A hb;replace F:=am_ (blk_below (g:=d7) (o:= .cells #[.int .i64 g4,.slice b5 a0.length b3] 29 (0,0)) (qp_ F) hb);replace G:=am_ (blk_below (g:=b9) (o:= .cells #[.int .i64 g0,.int .i64 g1] 43 (0,0)) (qp_ G) hb);replace HB:=hs_ hb;clear hb))
 go_loopg [17] k (fun kq v17 w' =>∃ (d:Int),v17= .int .i64 d∧Aside0 (laws_FnTakes.l0 kq h9 d O s L M Y y b7 b8=some true)∧Aside0 (kq≤k)∧Aside0 (Kd.R k72 72 w' w.heap.size (fun k_=>some k_≠((.slice Z y.length X):Value).ownBlock∧some k_≠((.slice b5 a0.length b3):Value).ownBlock) (.slice a1 s.length U) s)∧Aside0 (Kd.R k72 72 w' w.heap.size (fun k_=>some k_≠((.slice a1 s.length U):Value).ownBlock∧some k_≠((.slice b5 a0.length b3):Value).ownBlock) (.slice Z y.length X) y)∧Aside0 (Kd.R k72 72 w' w.heap.size (fun k_=>some k_≠((.slice a1 s.length U):Value).ownBlock∧some k_≠((.slice Z y.length X):Value).ownBlock) (.slice b5 a0.length b3) a0)∧Aside0 (w'.heap[J]? =some (.cells #[.int .i64 O,(.slice a1 s.length U)] 29 (0,0)))∧Aside0 (w'.heap[T]? =some (.cells #[.int .i64 L,.int .i64 M] 43 (0,0)))∧Aside0 (w'.heap[a2]? =some (.cells #[.int .i64 Y,(.slice Z y.length X)] 29 (0,0)))∧Aside0 (w'.heap[b4]? =some (.cells #[.int .i64 b7,.int .i64 b8] 43 (0,0)))∧Aside0 (w'.heap[d7]? =some (.cells #[.int .i64 g4,(.slice b5 a0.length b3)] 29 (0,0)))∧Aside0 (w'.heap[b9]? =some (.cells #[.int .i64 g0,.int .i64 g1] 43 (0,0)))∧Aside0 (Below w.heap.size w w'))
 case atStart=>exact⟨(0),qe_,H',⟨Nat.le_refl _⟩,⟨by(with_reducible repeat(first|apply Kd.R_alloc|apply Kd.R_drewN|apply Kd.R_drew));exact Kd.R_mono D.out (fun _ hk=>⟨hk.1.2,hk.2⟩)⟩,⟨by(with_reducible repeat(first|apply Kd.R_alloc|apply Kd.R_drewN|apply Kd.R_drew));exact Kd.R_mono c4.out (fun _ hk=>⟨hk.1.2,hk.2⟩)⟩,⟨by(with_reducible repeat(first|apply Kd.R_alloc|apply Kd.R_drewN|apply Kd.R_drew));exact Kd.R_mono j9.out (fun _ hk=>⟨hk.1.2,hk.2⟩)⟩,⟨qk_ u⟩,⟨qk_ x⟩,⟨qk_ z⟩,⟨qk_ A⟩,⟨qk_ F⟩,⟨qk_ G⟩,⟨qB_⟩⟩
 case round=>
  clear H' e2 e3 e4 e5 C5 C6 C9 D0 D7 D8 E1 E2 E8 E9 F2 F3 F6 F7 G0 G1 G7 G8 H1 H2 H5 H6 H9 I0 C7 C8 D1 D2 D9 E0 E3 E4 F0 F1 F4 F5 F8 F9 G2 G3 G9 H0 H3 H4 H7 H8 I1 I2
  obtain⟨d,rfl,HA,HK1,E,B,I,u,x,z,A,F,G,HB⟩:=hrel
  cases gk with
  |zero=>exact absurd HA.out (by simp [laws_FnTakes.l0])
  |succ r8=>
   have H:=HA.out;clear HA
   simp only[laws_FnTakes.l0]at H
   refine ic_ H ?_ ?_<;>clear H<;>intro f6 H
   ·have H' :=am_ H;clear H;obtain⟨en,eo⟩:=nn_ t5;obtain⟨ep,eq⟩:=nn_ o4;obtain⟨er,es⟩:=nn_ o5;obtain⟨et,eu⟩:=nn_ r6;obtain⟨ev,ew⟩:=nn_ r7
    obtain⟨u5,u6,u7,u9⟩:=bc2_ z
    go_wp2
    go_loopg [18] r8 (fun kq v18 w' =>∃ (a:Int),v18= .int .i64 a∧Aside0 (laws_FnTakes.l1 kq h9 d a O s L M Y y b7 b8=some true)∧Aside0 (kq≤r8)∧Aside0 (Kd.R k72 72 w' w.heap.size (fun k_=>some k_≠((.slice Z y.length X):Value).ownBlock∧some k_≠((.slice b5 a0.length b3):Value).ownBlock) (.slice a1 s.length U) s)∧Aside0 (Kd.R k72 72 w' w.heap.size (fun k_=>some k_≠((.slice a1 s.length U):Value).ownBlock∧some k_≠((.slice b5 a0.length b3):Value).ownBlock) (.slice Z y.length X) y)∧Aside0 (Kd.R k72 72 w' w.heap.size (fun k_=>some k_≠((.slice a1 s.length U):Value).ownBlock∧some k_≠((.slice Z y.length X):Value).ownBlock) (.slice b5 a0.length b3) a0)∧Aside0 (w'.heap[J]? =some (.cells #[.int .i64 O,(.slice a1 s.length U)] 29 (0,0)))∧Aside0 (w'.heap[T]? =some (.cells #[.int .i64 L,.int .i64 M] 43 (0,0)))∧Aside0 (w'.heap[a2]? =some (.cells #[.int .i64 Y,(.slice Z y.length X)] 29 (0,0)))∧Aside0 (w'.heap[b4]? =some (.cells #[.int .i64 b7,.int .i64 b8] 43 (0,0)))∧Aside0 (w'.heap[d7]? =some (.cells #[.int .i64 g4,(.slice b5 a0.length b3)] 29 (0,0)))∧Aside0 (w'.heap[b9]? =some (.cells #[.int .i64 g0,.int .i64 g1] 43 (0,0)))∧Aside0 (Below w.heap.size w w'))
    case atStart=>exact⟨(0),qe_,H',⟨Nat.le_refl _⟩,⟨ra_ E⟩,⟨ra_ B⟩,⟨ra_ I⟩,⟨qk_ u⟩,⟨qk_ x⟩,⟨qk_ z⟩,⟨qk_ A⟩,⟨qk_ F⟩,⟨qk_ G⟩,⟨qB_⟩⟩
    case round=>
     clear H' f6 u5 u6 u7 u9
     obtain⟨a,rfl,HA,HK2,E,B,I,u,x,z,A,F,G,HB⟩:=hrel
     cases gk with
     |zero=>exact absurd HA.out (by simp [laws_FnTakes.l1])
     |succ e6=>
      have H:=HA.out;clear HA
      simp only[laws_FnTakes.l1]at H
      refine ib_ H ?_ ?_<;>clear H<;>intro k1 H
      ·have H' :=am_ H;clear H;obtain⟨ex,ey⟩:=nn_ f5;obtain⟨ez,eA⟩:=nn_ i0;obtain⟨eB,eC⟩:=nn_ i1;obtain⟨eD,eE⟩:=nn_ i2;obtain⟨eF,eG⟩:=nn_ i3
       obtain⟨v0,v1,v2,v3⟩:=bc2_ u
       go_wp2
       go_roundg e6
       case measure=>have:=HK1.out;have:=HK2.out;omega
       case rel=>exact⟨(wrap64 (d + 1)),qe_,H',⟨by have:=HK1.out;have:=HK2.out;omega⟩,⟨ra_ E⟩,⟨ra_ B⟩,⟨ra_ I⟩,⟨qk_ u⟩,⟨qk_ x⟩,⟨qk_ z⟩,⟨qk_ A⟩,⟨qk_ F⟩,⟨qk_ G⟩,⟨qB_⟩⟩
      refine ig_ H ?_;clear H;intro r9 H
      refine ig_ H ?_;clear H;intro s0 H
      refine ig_ H ?_;clear H;intro s1 H
      refine jb_ H ?_ ?_<;>clear H<;>intro b6 H
      ·have f7:(((rd_T72 y d).f0)==((rd_T72 s a).f0))=false:=beq_eq_false_iff_ne.mpr b6
       have f8:(((rd_T72 y d).f0) != ((rd_T72 s a).f0))=true:=bne_iff_ne.mpr b6
       have H' :=am_ H;clear H;obtain⟨eH,eI⟩:=nn_ f5;obtain⟨eJ,eK⟩:=nn_ i0;obtain⟨eL,eM⟩:=nn_ i1;obtain⟨eN,eO⟩:=nn_ i2;obtain⟨eP,Z7⟩:=nn_ i3
       obtain⟨v4,v5,v6,v7⟩:=bc2_ u
       try go_wp2
       replace E:=rd_ E;replace B:=rd_ B;replace I:=rd_ I;replace u:=bd_ u;replace x:=bd_ x;replace z:=bd_ z;replace A:=bd_ A;replace F:=bd_ F;replace G:=bd_ G;replace HB:=hd_ HB
       have a3:=dt_ d
       have a4:=du_ d y.length
       obtain⟨l,a8,g5,g6,g7,g8⟩:=at_T72 (Kd.R_reads' B.out).2.2 d (ot_ a3) (ot_ a4)
       cases a8
       have a5:=dt_ a
       have a6:=du_ a s.length
       obtain⟨m,a9,g9,h0,h1,h2⟩:=at_T72 (Kd.R_reads' E.out).2.2 a (ot_ a5) (ot_ a6)
       cases a9
       refine start_ (n:=43) (S:=fun w' =>w'.cell? ⟨a2,0,none⟩=some (.int .i64 Y)∧w'.cell? ⟨a2,1,none⟩=some (.slice (some l) y.length X)∧w'.cell? ⟨J,0,none⟩=some (.int .i64 O)∧w'.cell? ⟨J,1,none⟩=some (.slice (some m) s.length U)∧w'.cell? (l.add ((d).toNat * 4))=some (.int .i64 ((rd_T72 y d).f0))∧w'.cell? ⟨(l.add ((d).toNat * 4)).block,(l.add ((d).toNat * 4)).off + 1,none⟩=some (.int .i64 ((rd_T72 y d).f1))∧w'.cell? ⟨(l.add ((d).toNat * 4)).block,(l.add ((d).toNat * 4)).off + 2,none⟩=some (.int .i64 ((rd_T72 y d).f2))∧w'.cell? ⟨(l.add ((d).toNat * 4)).block,(l.add ((d).toNat * 4)).off + 3,none⟩=some (.bool ((rd_T72 y d).f3))∧w'.cell? (m.add ((a).toNat * 4))=some (.int .i64 ((rd_T72 s a).f0))∧w'.cell? ⟨(m.add ((a).toNat * 4)).block,(m.add ((a).toNat * 4)).off + 1,none⟩=some (.int .i64 ((rd_T72 s a).f1))∧w'.cell? ⟨(m.add ((a).toNat * 4)).block,(m.add ((a).toNat * 4)).off + 2,none⟩=some (.int .i64 ((rd_T72 s a).f2))∧w'.cell? ⟨(m.add ((a).toNat * 4)).block,(m.add ((a).toNat * 4)).off + 3,none⟩=some (.bool ((rd_T72 s a).f3))) (ds:=[]) (bm 43 0) (by kernel_rfl) rfl (by kernel_rfl) ⟨bl_ z 0,bl_ z 1,bl_ u 0,bl_ u 1,g5,g6,g7,g8,g9,h0,h1,h2⟩ (fun hHeld=> ?_);refine with_tabW laws_FnTakes.tab17 laws_FnTakes.bits17 (fun HT_ HW_=> ?_)
       generalize wr.drew=J0 at E B I u x z A F G HB g5 g6 g7 g8 g9 h0 h1 h2 hHeld ⊢
       refine pz_ 0 95 43 1 ?_;refine pz_ 2 97 43 5 ?_;refine pz_ 6 101 43 69 ?_;refine pz_ 8 103 43 325 ?_;refine tz12_ 1 96 (bm 43 327) ?_;refine pz_ 3 98 43 335 ?_;refine pz_ 4 99 43 351 ?_;refine tz12_ 5 100 (bm 43 383) ?_;refine tz12_ 7 102 (bm 43 511) ?_;refine pz_ 9 104 43 1023 ?_;refine pz_ 10 105 43 2047 ?_;refine tz12_ 11 106 (bm 43 4095) ?_;refine pz_ 12 107 43 8191 ?_;refine pz_ 13 108 43 16383 ?_
       refine pu_ 14 109 43 32767 ?_
       refine pu_ 15 110 43 65535 ?_
       refine pu_ 16 111 43 131071 ?_
       refine pu_ 17 112 43 262143 ?_
       refine pu_ 18 113 43 524287 ?_
       refine pu_ 19 114 43 1048575 ?_
       refine pu_ 20 115 43 2097151 ?_
       refine pu_ 21 116 43 4194303 ?_
       refine pu_ 22 117 43 8388607 ?_
       refine pu_ 23 118 43 16777215 ?_
       refine pu_ 24 119 43 33554431 ?_
       refine pu_ 25 120 43 67108863 ?_
       refine pu_ 26 121 43 134217727 ?_
       refine pz_ 27 122 43 268435455 ?_;refine pz_ 28 123 43 536870911 ?_
       refine pu_ 29 124 43 1073741823 ?_
       refine pu_ 30 125 43 2147483647 ?_
       refine pu_ 31 126 43 4294967295 ?_
       refine pu_ 32 127 43 8589934591 ?_
       refine pu_ 33 128 43 17179869183 ?_
       refine pu_ 34 129 43 34359738367 ?_
       refine pu_ 35 130 43 68719476735 ?_
       refine pu_ 36 131 43 137438953471 ?_
       refine pu_ 37 132 43 274877906943 ?_
       refine pu_ 38 133 43 549755813887 ?_
       refine pu_ 39 134 43 1099511627775 ?_
       refine pu_ 40 135 43 2199023255551 ?_
       refine pu_ 41 136 43 4398046511103 ?_
       refine pz_ 42 137 43 8796093022207 ?_
       refine done_ (done_of HT_.out (by kernel_rfl)) ?_
       try go_wp2
       go_roundg e6
       case measure=>have:=HK1.out;have:=HK2.out;omega
       case rel=>exact⟨(wrap64 (a + 1)),qe_,H',⟨by have:=HK1.out;have:=HK2.out;omega⟩,⟨ra_ E⟩,⟨ra_ B⟩,⟨ra_ I⟩,⟨qk_ u⟩,⟨qk_ x⟩,⟨qk_ z⟩,⟨qk_ A⟩,⟨qk_ F⟩,⟨qk_ G⟩,⟨qB_⟩⟩
      have f7:(((rd_T72 y d).f0)==((rd_T72 s a).f0))=true:=beq_iff_eq.mpr b6
      have f8:(((rd_T72 y d).f0) != ((rd_T72 s a).f0))=false:=bne_eq_false_iff_eq.mpr b6
      clear b6
      refine jb_ H ?_ ?_<;>clear H<;>intro c5 H
      ·have k2:(((rd_T72 y d).f1)==((rd_T72 s a).f1))=false:=beq_eq_false_iff_ne.mpr c5
       have k3:(((rd_T72 y d).f1) != ((rd_T72 s a).f1))=true:=bne_iff_ne.mpr c5
       have H' :=am_ H;clear H;obtain⟨Z8,Z9⟩:=nn_ f5;obtain⟨aa,ab⟩:=nn_ i0;obtain⟨ac,ad⟩:=nn_ i1;obtain⟨ae,af⟩:=nn_ i2;obtain⟨ag,ah⟩:=nn_ i3
       obtain⟨eQ,eR,eS,eT⟩:=bc2_ u
       try go_wp2
       replace E:=rd_ E;replace B:=rd_ B;replace I:=rd_ I;replace u:=bd_ u;replace x:=bd_ x;replace z:=bd_ z;replace A:=bd_ A;replace F:=bd_ F;replace G:=bd_ G;replace HB:=hd_ HB
       have a3:=dt_ d
       have a4:=du_ d y.length
       obtain⟨l,a8,g5,g6,g7,g8⟩:=at_T72 (Kd.R_reads' B.out).2.2 d (ot_ a3) (ot_ a4)
       cases a8
       have a5:=dt_ a
       have a6:=du_ a s.length
       obtain⟨m,a9,g9,h0,h1,h2⟩:=at_T72 (Kd.R_reads' E.out).2.2 a (ot_ a5) (ot_ a6)
       cases a9
       have c6:=dt_ d
       have c7:=du_ d y.length
       obtain⟨b0,c8,l4,l5,l6,l7⟩:=at_T72 (Kd.R_reads' B.out).2.2 d (ot_ c6) (ot_ c7)
       obtain rfl:l=b0:=(by injection c8)
       have c9:=dt_ a
       have d0:=du_ a s.length
       obtain⟨b1,d1,l8,l9,m0,m1⟩:=at_T72 (Kd.R_reads' E.out).2.2 a (ot_ c9) (ot_ d0)
       obtain rfl:m=b1:=(by injection d1)
       refine start_ (n:=43) (S:=fun w' =>w'.cell? ⟨a2,0,none⟩=some (.int .i64 Y)∧w'.cell? ⟨a2,1,none⟩=some (.slice (some l) y.length X)∧w'.cell? ⟨J,0,none⟩=some (.int .i64 O)∧w'.cell? ⟨J,1,none⟩=some (.slice (some m) s.length U)∧w'.cell? (l.add ((d).toNat * 4))=some (.int .i64 ((rd_T72 y d).f0))∧w'.cell? ⟨(l.add ((d).toNat * 4)).block,(l.add ((d).toNat * 4)).off + 1,none⟩=some (.int .i64 ((rd_T72 y d).f1))∧w'.cell? ⟨(l.add ((d).toNat * 4)).block,(l.add ((d).toNat * 4)).off + 2,none⟩=some (.int .i64 ((rd_T72 y d).f2))∧w'.cell? ⟨(l.add ((d).toNat * 4)).block,(l.add ((d).toNat * 4)).off + 3,none⟩=some (.bool ((rd_T72 y d).f3))∧w'.cell? (m.add ((a).toNat * 4))=some (.int .i64 ((rd_T72 s a).f0))∧w'.cell? ⟨(m.add ((a).toNat * 4)).block,(m.add ((a).toNat * 4)).off + 1,none⟩=some (.int .i64 ((rd_T72 s a).f1))∧w'.cell? ⟨(m.add ((a).toNat * 4)).block,(m.add ((a).toNat * 4)).off + 2,none⟩=some (.int .i64 ((rd_T72 s a).f2))∧w'.cell? ⟨(m.add ((a).toNat * 4)).block,(m.add ((a).toNat * 4)).off + 3,none⟩=some (.bool ((rd_T72 s a).f3))∧w'.cell? (l.add ((d).toNat * 4))=some (.int .i64 ((rd_T72 y d).f0))∧w'.cell? ⟨(l.add ((d).toNat * 4)).block,(l.add ((d).toNat * 4)).off + 1,none⟩=some (.int .i64 ((rd_T72 y d).f1))∧w'.cell? ⟨(l.add ((d).toNat * 4)).block,(l.add ((d).toNat * 4)).off + 2,none⟩=some (.int .i64 ((rd_T72 y d).f2))∧w'.cell? ⟨(l.add ((d).toNat * 4)).block,(l.add ((d).toNat * 4)).off + 3,none⟩=some (.bool ((rd_T72 y d).f3))∧w'.cell? (m.add ((a).toNat * 4))=some (.int .i64 ((rd_T72 s a).f0))∧w'.cell? ⟨(m.add ((a).toNat * 4)).block,(m.add ((a).toNat * 4)).off + 1,none⟩=some (.int .i64 ((rd_T72 s a).f1))∧w'.cell? ⟨(m.add ((a).toNat * 4)).block,(m.add ((a).toNat * 4)).off + 2,none⟩=some (.int .i64 ((rd_T72 s a).f2))∧w'.cell? ⟨(m.add ((a).toNat * 4)).block,(m.add ((a).toNat * 4)).off + 3,none⟩=some (.bool ((rd_T72 s a).f3))) (ds:=[]) (bm 43 0) (by kernel_rfl) rfl (by kernel_rfl) ⟨bl_ z 0,bl_ z 1,bl_ u 0,bl_ u 1,g5,g6,g7,g8,g9,h0,h1,h2,l4,l5,l6,l7,l8,l9,m0,m1⟩ (fun hHeld=> ?_);refine with_tabW laws_FnTakes.tab17 laws_FnTakes.bits17 (fun HT_ HW_=> ?_)
       generalize wr.drew=J1 at E B I u x z A F G HB g5 g6 g7 g8 g9 h0 h1 h2 l4 l5 l6 l7 l8 l9 m0 m1 hHeld ⊢
       refine pz_ 0 95 43 1 ?_;refine pz_ 2 97 43 5 ?_;refine pz_ 6 101 43 69 ?_;refine pz_ 8 103 43 325 ?_;refine tz20_ 1 96 (bm 43 327) ?_;refine pz_ 3 98 43 335 ?_;refine pz_ 4 99 43 351 ?_;refine tz20_ 5 100 (bm 43 383) ?_;refine tz20_ 7 102 (bm 43 511) ?_;refine pz_ 9 104 43 1023 ?_;refine pz_ 10 105 43 2047 ?_;refine tz20_ 11 106 (bm 43 4095) ?_;refine pz_ 12 107 43 8191 ?_;refine pz_ 13 108 43 16383 ?_;refine pz_ 14 109 43 32767 ?_;refine pz_ 16 111 43 98303 ?_;refine pz_ 20 115 43 1146879 ?_;refine pz_ 22 117 43 5341183 ?_;refine tz20_ 15 110 (bm 43 5373951) ?_;refine pz_ 17 112 43 5505023 ?_;refine pz_ 18 113 43 5767167 ?_;refine tz20_ 19 114 (bm 43 6291455) ?_;refine tz20_ 21 116 (bm 43 8388607) ?_;refine pz_ 23 118 43 16777215 ?_;refine pz_ 24 119 43 33554431 ?_;refine tz20_ 25 120 (bm 43 67108863) ?_;refine pz_ 26 121 43 134217727 ?_;refine pz_ 27 122 43 268435455 ?_;refine pz_ 28 123 43 536870911 ?_
       refine pu_ 29 124 43 1073741823 ?_
       refine pu_ 30 125 43 2147483647 ?_
       refine pu_ 31 126 43 4294967295 ?_
       refine pu_ 32 127 43 8589934591 ?_
       refine pu_ 33 128 43 17179869183 ?_
       refine pu_ 34 129 43 34359738367 ?_
       refine pu_ 35 130 43 68719476735 ?_
       refine pu_ 36 131 43 137438953471 ?_
       refine pu_ 37 132 43 274877906943 ?_
       refine pu_ 38 133 43 549755813887 ?_
       refine pu_ 39 134 43 1099511627775 ?_
       refine pu_ 40 135 43 2199023255551 ?_
       refine pu_ 41 136 43 4398046511103 ?_
       refine pz_ 42 137 43 8796093022207 ?_
       refine done_ (done_of HT_.out (by kernel_rfl)) ?_
       try go_wp2
       go_roundg e6
       case measure=>have:=HK1.out;have:=HK2.out;omega
       case rel=>exact⟨(wrap64 (a + 1)),qe_,H',⟨by have:=HK1.out;have:=HK2.out;omega⟩,⟨ra_ E⟩,⟨ra_ B⟩,⟨ra_ I⟩,⟨qk_ u⟩,⟨qk_ x⟩,⟨qk_ z⟩,⟨qk_ A⟩,⟨qk_ F⟩,⟨qk_ G⟩,⟨qB_⟩⟩
      have k2:(((rd_T72 y d).f1)==((rd_T72 s a).f1))=true:=beq_iff_eq.mpr c5
      have k3:(((rd_T72 y d).f1) != ((rd_T72 s a).f1))=false:=bne_eq_false_iff_eq.mpr c5
      clear c5
      refine ic_ H ?_ ?_<;>clear H<;>intro s2 H
      ·exact absurd (oi_ H) (by decide)
      have H' :=am_ H;clear H;obtain⟨au,av⟩:=nn_ f5;obtain⟨aw,ax⟩:=nn_ i0;obtain⟨ay,az⟩:=nn_ i1;obtain⟨aA,aB⟩:=nn_ i2;obtain⟨aC,aD⟩:=nn_ i3
      obtain⟨eY,eZ,fa,fb⟩:=bc2_ u
      try go_wp2
      replace E:=rd_ E;replace B:=rd_ B;replace I:=rd_ I;replace u:=bd_ u;replace x:=bd_ x;replace z:=bd_ z;replace A:=bd_ A;replace F:=bd_ F;replace G:=bd_ G;replace HB:=hd_ HB
      have a3:=dt_ d
      have a4:=du_ d y.length
      obtain⟨l,a8,g5,g6,g7,g8⟩:=at_T72 (Kd.R_reads' B.out).2.2 d (ot_ a3) (ot_ a4)
      cases a8
      have a5:=dt_ a
      have a6:=du_ a s.length
      obtain⟨m,a9,g9,h0,h1,h2⟩:=at_T72 (Kd.R_reads' E.out).2.2 a (ot_ a5) (ot_ a6)
      cases a9
      have c6:=dt_ d
      have c7:=du_ d y.length
      obtain⟨b0,c8,l4,l5,l6,l7⟩:=at_T72 (Kd.R_reads' B.out).2.2 d (ot_ c6) (ot_ c7)
      obtain rfl:l=b0:=(by injection c8)
      have c9:=dt_ a
      have d0:=du_ a s.length
      obtain⟨b1,d1,l8,l9,m0,m1⟩:=at_T72 (Kd.R_reads' E.out).2.2 a (ot_ c9) (ot_ d0)
      obtain rfl:m=b1:=(by injection d1)
      have i4:=dt_ d
      have i5:=du_ d y.length
      obtain⟨e7,i6,q4,q5,j0,j1⟩:=at_T72 (Kd.R_reads' B.out).2.2 d (ot_ i4) (ot_ i5)
      obtain rfl:l=e7:=(by injection i6)
      have i7:=dt_ a
      have i8:=du_ a s.length
      obtain⟨e8,i9,j2,j3,j4,q6⟩:=at_T72 (Kd.R_reads' E.out).2.2 a (ot_ i7) (ot_ i8)
      obtain rfl:m=e8:=(by injection i9)
      refine start_ (n:=43) (S:=fun w' =>w'.cell? ⟨a2,0,none⟩=some (.int .i64 Y)∧w'.cell? ⟨a2,1,none⟩=some (.slice (some l) y.length X)∧w'.cell? ⟨J,0,none⟩=some (.int .i64 O)∧w'.cell? ⟨J,1,none⟩=some (.slice (some m) s.length U)∧w'.cell? (l.add ((d).toNat * 4))=some (.int .i64 ((rd_T72 y d).f0))∧w'.cell? ⟨(l.add ((d).toNat * 4)).block,(l.add ((d).toNat * 4)).off + 1,none⟩=some (.int .i64 ((rd_T72 y d).f1))∧w'.cell? ⟨(l.add ((d).toNat * 4)).block,(l.add ((d).toNat * 4)).off + 2,none⟩=some (.int .i64 ((rd_T72 y d).f2))∧w'.cell? ⟨(l.add ((d).toNat * 4)).block,(l.add ((d).toNat * 4)).off + 3,none⟩=some (.bool ((rd_T72 y d).f3))∧w'.cell? (m.add ((a).toNat * 4))=some (.int .i64 ((rd_T72 s a).f0))∧w'.cell? ⟨(m.add ((a).toNat * 4)).block,(m.add ((a).toNat * 4)).off + 1,none⟩=some (.int .i64 ((rd_T72 s a).f1))∧w'.cell? ⟨(m.add ((a).toNat * 4)).block,(m.add ((a).toNat * 4)).off + 2,none⟩=some (.int .i64 ((rd_T72 s a).f2))∧w'.cell? ⟨(m.add ((a).toNat * 4)).block,(m.add ((a).toNat * 4)).off + 3,none⟩=some (.bool ((rd_T72 s a).f3))∧w'.cell? (l.add ((d).toNat * 4))=some (.int .i64 ((rd_T72 y d).f0))∧w'.cell? ⟨(l.add ((d).toNat * 4)).block,(l.add ((d).toNat * 4)).off + 1,none⟩=some (.int .i64 ((rd_T72 y d).f1))∧w'.cell? ⟨(l.add ((d).toNat * 4)).block,(l.add ((d).toNat * 4)).off + 2,none⟩=some (.int .i64 ((rd_T72 y d).f2))∧w'.cell? ⟨(l.add ((d).toNat * 4)).block,(l.add ((d).toNat * 4)).off + 3,none⟩=some (.bool ((rd_T72 y d).f3))∧w'.cell? (m.add ((a).toNat * 4))=some (.int .i64 ((rd_T72 s a).f0))∧w'.cell? ⟨(m.add ((a).toNat * 4)).block,(m.add ((a).toNat * 4)).off + 1,none⟩=some (.int .i64 ((rd_T72 s a).f1))∧w'.cell? ⟨(m.add ((a).toNat * 4)).block,(m.add ((a).toNat * 4)).off + 2,none⟩=some (.int .i64 ((rd_T72 s a).f2))∧w'.cell? ⟨(m.add ((a).toNat * 4)).block,(m.add ((a).toNat * 4)).off + 3,none⟩=some (.bool ((rd_T72 s a).f3))∧w'.cell? (l.add ((d).toNat * 4))=some (.int .i64 ((rd_T72 y d).f0))∧w'.cell? ⟨(l.add ((d).toNat * 4)).block,(l.add ((d).toNat * 4)).off + 1,none⟩=some (.int .i64 ((rd_T72 y d).f1))∧w'.cell? ⟨(l.add ((d).toNat * 4)).block,(l.add ((d).toNat * 4)).off + 2,none⟩=some (.int .i64 ((rd_T72 y d).f2))∧w'.cell? ⟨(l.add ((d).toNat * 4)).block,(l.add ((d).toNat * 4)).off + 3,none⟩=some (.bool ((rd_T72 y d).f3))∧w'.cell? (m.add ((a).toNat * 4))=some (.int .i64 ((rd_T72 s a).f0))∧w'.cell? ⟨(m.add ((a).toNat * 4)).block,(m.add ((a).toNat * 4)).off + 1,none⟩=some (.int .i64 ((rd_T72 s a).f1))∧w'.cell? ⟨(m.add ((a).toNat * 4)).block,(m.add ((a).toNat * 4)).off + 2,none⟩=some (.int .i64 ((rd_T72 s a).f2))∧w'.cell? ⟨(m.add ((a).toNat * 4)).block,(m.add ((a).toNat * 4)).off + 3,none⟩=some (.bool ((rd_T72 s a).f3))) (ds:=[]) (bm 43 0) (by kernel_rfl) rfl (by kernel_rfl) ⟨bl_ z 0,bl_ z 1,bl_ u 0,bl_ u 1,g5,g6,g7,g8,g9,h0,h1,h2,l4,l5,l6,l7,l8,l9,m0,m1,q4,q5,j0,j1,j2,j3,j4,q6⟩ (fun hHeld=> ?_);refine with_tabW laws_FnTakes.tab17 laws_FnTakes.bits17 (fun HT_ HW_=> ?_)
      generalize wr.drew=J3 at E B I u x z A F G HB g5 g6 g7 g8 g9 h0 h1 h2 l4 l5 l6 l7 l8 l9 m0 m1 q4 q5 j0 j1 j2 j3 j4 q6 hHeld ⊢
      refine pz_ 0 95 43 1 ?_;refine pz_ 2 97 43 5 ?_;refine pz_ 6 101 43 69 ?_;refine pz_ 8 103 43 325 ?_;refine tz28_ 1 96 (bm 43 327) ?_;refine pz_ 3 98 43 335 ?_;refine pz_ 4 99 43 351 ?_;refine tz28_ 5 100 (bm 43 383) ?_;refine tz28_ 7 102 (bm 43 511) ?_;refine pz_ 9 104 43 1023 ?_;refine pz_ 10 105 43 2047 ?_;refine tz28_ 11 106 (bm 43 4095) ?_;refine pz_ 12 107 43 8191 ?_;refine pz_ 13 108 43 16383 ?_;refine pz_ 14 109 43 32767 ?_;refine pz_ 16 111 43 98303 ?_;refine pz_ 20 115 43 1146879 ?_;refine pz_ 22 117 43 5341183 ?_;refine tz28_ 15 110 (bm 43 5373951) ?_;refine pz_ 17 112 43 5505023 ?_;refine pz_ 18 113 43 5767167 ?_;refine tz28_ 19 114 (bm 43 6291455) ?_;refine tz28_ 21 116 (bm 43 8388607) ?_;refine pz_ 23 118 43 16777215 ?_;refine pz_ 24 119 43 33554431 ?_;refine tz28_ 25 120 (bm 43 67108863) ?_;refine pz_ 26 121 43 134217727 ?_;refine pz_ 27 122 43 268435455 ?_;refine pz_ 28 123 43 536870911 ?_;refine pz_ 29 124 43 1073741823 ?_;refine pz_ 31 126 43 3221225471 ?_;refine pz_ 35 130 43 37580963839 ?_;refine pz_ 37 132 43 175019917311 ?_;refine tz28_ 30 125 (bm 43 176093659135) ?_;refine pz_ 32 127 43 180388626431 ?_;refine pz_ 33 128 43 188978561023 ?_;refine tz28_ 34 129 (bm 43 206158430207) ?_;refine tz28_ 36 131 (bm 43 274877906943) ?_;refine pz_ 38 133 43 549755813887 ?_;refine pz_ 39 134 43 1099511627775 ?_;refine tz28_ 40 135 (bm 43 2199023255551) ?_;refine pz_ 41 136 43 4398046511103 ?_;refine pz_ 42 137 43 8796093022207 ?_
      refine done_ (done_of HT_.out (by kernel_rfl)) ?_
      try go_wp2
      go_roundg e6
      case measure=>have:=HK1.out;have:=HK2.out;omega
      case rel=>exact⟨(wrap64 (a + 1)),qe_,H',⟨by have:=HK1.out;have:=HK2.out;omega⟩,⟨ra_ E⟩,⟨ra_ B⟩,⟨ra_ I⟩,⟨qk_ u⟩,⟨qk_ x⟩,⟨qk_ z⟩,⟨qk_ A⟩,⟨qk_ F⟩,⟨qk_ G⟩,⟨qB_⟩⟩
   have H' :=am_ H;clear H;obtain⟨aE,aF⟩:=nn_ t5;obtain⟨aG,aH⟩:=nn_ o4;obtain⟨aI,aJ⟩:=nn_ o5;obtain⟨aK,aL⟩:=nn_ r6;obtain⟨aM,aN⟩:=nn_ r7
   obtain⟨v8,v9,aO,aP⟩:=bc2_ z
   go_wp2
   go_loopg [19,20] r8 (fun kq v19 v20 w' =>∃ (e9:Bool) (j:Int),v19= .bool e9∧v20= .int .i64 j∧Aside0 (laws_FnTakes.l2 kq h9 e9 j O s L M Y y b7 b8=some true)∧Aside0 (kq≤r8)∧Aside0 (Kd.R k72 72 w' w.heap.size (fun k_=>some k_≠((.slice Z y.length X):Value).ownBlock∧some k_≠((.slice b5 a0.length b3):Value).ownBlock) (.slice a1 s.length U) s)∧Aside0 (Kd.R k72 72 w' w.heap.size (fun k_=>some k_≠((.slice a1 s.length U):Value).ownBlock∧some k_≠((.slice b5 a0.length b3):Value).ownBlock) (.slice Z y.length X) y)∧Aside0 (Kd.R k72 72 w' w.heap.size (fun k_=>some k_≠((.slice a1 s.length U):Value).ownBlock∧some k_≠((.slice Z y.length X):Value).ownBlock) (.slice b5 a0.length b3) a0)∧Aside0 (w'.heap[J]? =some (.cells #[.int .i64 O,(.slice a1 s.length U)] 29 (0,0)))∧Aside0 (w'.heap[T]? =some (.cells #[.int .i64 L,.int .i64 M] 43 (0,0)))∧Aside0 (w'.heap[a2]? =some (.cells #[.int .i64 Y,(.slice Z y.length X)] 29 (0,0)))∧Aside0 (w'.heap[b4]? =some (.cells #[.int .i64 b7,.int .i64 b8] 43 (0,0)))∧Aside0 (w'.heap[d7]? =some (.cells #[.int .i64 g4,(.slice b5 a0.length b3)] 29 (0,0)))∧Aside0 (w'.heap[b9]? =some (.cells #[.int .i64 g0,.int .i64 g1] 43 (0,0)))∧Aside0 (Below w.heap.size w w'))
   case atStart=>exact⟨(false),(0),qe_,qe_,H',⟨Nat.le_refl _⟩,⟨ra_ E⟩,⟨ra_ B⟩,⟨ra_ I⟩,⟨qk_ u⟩,⟨qk_ x⟩,⟨qk_ z⟩,⟨qk_ A⟩,⟨qk_ F⟩,⟨qk_ G⟩,⟨qB_⟩⟩
   case round=>
    clear H' f6 v8 v9 aO aP
    obtain⟨e9,j,rfl,rfl,HA,HK2,E,B,I,u,x,z,A,F,G,HB⟩:=hrel
    cases gk with
    |zero=>exact absurd HA.out (by simp [laws_FnTakes.l2])
    |succ e6=>
     have H:=HA.out;clear HA
     simp only[laws_FnTakes.l2]at H
     refine ib_ H ?_ ?_<;>clear H<;>intro s3 H
     ·obtain⟨s4,L3,H⟩:=bs_ H
      refine jc_ H ?_ ?_<;>clear H<;>intro f9 H
      ·have k4:decide (2<s4)=true:=decide_eq_true f9
       clear f9
       exact absurd (oi_ H) (by decide)
      have k4:decide (2<s4)=false:=decide_eq_false f9
      clear f9
      refine id_ H ?_ ?_<;>clear H<;>rintro rfl H
      ·obtain⟨z2,z3,H⟩:=bs_ H
       have H:=oi_ H
       obtain⟨aW,aX⟩:=nn_ f5;obtain⟨aY,aZ⟩:=nn_ i0;obtain⟨ba,bb⟩:=nn_ i1;obtain⟨bc,bd⟩:=nn_ i2;obtain⟨be,bf⟩:=nn_ i3
       obtain⟨ff,fg,fh,fi⟩:=bc2_ u
       obtain⟨bg,bh⟩:=nn_ o4;obtain⟨bi,bj⟩:=nn_ o5;obtain⟨bk,bl⟩:=nn_ r6;obtain⟨bn,bo⟩:=nn_ r7
       obtain⟨fj,fk,fl,fm⟩:=bc2_ z
       go_wp2_with (first|((with_reducible refine gc_ 27 ?_);refine gl_ (some 177) Try.func27 #[.agg #[.int .i64 Y,.slice Z y.length X]] ?_;(with_reducible refine(impl_HeightOf.calls e6 Y _ _ y s4 _ ?_ ?_ L3.out).mono ?_);exact qD_ (Kd.R_reads' B.out).2.2;exact(Kd.R_reads' B.out).2.1;rintro e L4 ⟨rfl,hb⟩;refine⟨_,rfl,?_⟩;replace E:=kb_ E hb;replace B:=kb_ B hb;replace I:=kb_ I hb;replace u:=qbl_ u hb;replace x:=qbl_ x hb;replace z:=qbl_ z hb;replace A:=qbl_ A hb;replace F:=qbl_ F hb;replace G:=qbl_ G hb;replace HB:=hs_ hb;clear hb;obtain⟨fn,fo,fp,fq⟩:=bc2_ z;obtain⟨bp,bq⟩:=nn_ P4;obtain⟨br,bs⟩:=nn_ P9;obtain⟨bt,bu⟩:=nn_ Q4;obtain⟨fr,fs,ft,fu⟩:=bc2_ x)|((with_reducible refine gc_ 29 ?_);refine gl_ (some 201) Try.func29 #[.agg #[.int .i64 Y,.slice Z y.length X],.int .i64 L,.int .i64 M] ?_;(with_reducible refine(impl_WebTogether.calls e6 Y _ _ y L M z2 _ ?_ ?_ z3.out).mono ?_);exact qD_ (Kd.R_reads' B.out).2.2;exact(Kd.R_reads' B.out).2.1;rintro e L5 ⟨rfl,hb⟩;refine⟨_,rfl,?_⟩;replace E:=kb_ E hb;replace B:=kb_ B hb;replace I:=kb_ I hb;replace u:=qbl_ u hb;replace x:=qbl_ x hb;replace z:=qbl_ z hb;replace A:=qbl_ A hb;replace F:=qbl_ F hb;replace G:=qbl_ G hb;replace HB:=hs_ hb;clear hb))
       go_ret
       exact⟨qr_,qB_⟩
      refine id_ H ?_ ?_<;>clear H<;>rintro rfl H
      ·exact absurd (oi_ H) (by decide)
      obtain⟨bv,z4,H⟩:=bs_ H
      refine id_ H ?_ ?_<;>clear H<;>rintro rfl H
      ·exact absurd (oi_ H) (by decide)
      obtain⟨⟨z5,z6⟩,z7,H⟩:=bs_ H;dsimp only at H
      obtain⟨bw,z8,H⟩:=bs_ H
      obtain rfl:=oi_ H
      obtain⟨bx,bz⟩:=nn_ f5;obtain⟨bA,bB⟩:=nn_ i0;obtain⟨bC,bD⟩:=nn_ i1;obtain⟨bE,bF⟩:=nn_ i2;obtain⟨bG,bH⟩:=nn_ i3
      obtain⟨fv,fw,fx,fy⟩:=bc2_ u
      obtain⟨bI,bJ⟩:=nn_ o4;obtain⟨bK,bL⟩:=nn_ o5;obtain⟨bM,bN⟩:=nn_ r6;obtain⟨bO,bP⟩:=nn_ r7
      obtain⟨fz,fA,fB,fC⟩:=bc2_ z
      try go_wp2_with (first|((with_reducible refine gc_ 27 ?_);refine gl_ (some 177) Try.func27 #[.agg #[.int .i64 Y,.slice Z y.length X]] ?_;(with_reducible refine(impl_HeightOf.calls e6 Y _ _ y s4 _ ?_ ?_ L3.out).mono ?_);exact qD_ (Kd.R_reads' B.out).2.2;exact(Kd.R_reads' B.out).2.1;rintro e q7 ⟨rfl,hb⟩;refine⟨_,rfl,?_⟩;replace E:=kb_ E hb;replace B:=kb_ B hb;replace I:=kb_ I hb;replace u:=qbl_ u hb;replace x:=qbl_ x hb;replace z:=qbl_ z hb;replace A:=qbl_ A hb;replace F:=qbl_ F hb;replace G:=qbl_ G hb;replace HB:=hs_ hb;clear hb))
      replace E:=rd_ E;replace B:=rd_ B;replace I:=rd_ I;replace u:=bd_ u;replace x:=bd_ x;replace z:=bd_ z;replace A:=bd_ A;replace F:=bd_ F;replace G:=bd_ G;replace HB:=hd_ HB
      refine start_ (n:=17) (S:=fun w' =>w'.cell? ⟨a2,0,none⟩=some (.int .i64 Y)∧w'.cell? ⟨a2,1,none⟩=some (.slice Z y.length X)∧w'.cell? ⟨T,0,none⟩=some (.int .i64 L)∧w'.cell? ⟨T,1,none⟩=some (.int .i64 M)∧w'.cell? ⟨b4,0,none⟩=some (.int .i64 b7)∧w'.cell? ⟨b4,1,none⟩=some (.int .i64 b8)) (ds:=[]) (bm 17 0) (by kernel_rfl) rfl (by kernel_rfl) ⟨bl_ z 0,bl_ z 1,bl_ x 0,bl_ x 1,bl_ A 0,bl_ A 1⟩ (fun hHeld=> ?_);refine with_tabW laws_FnTakes.tab27 laws_FnTakes.bits27 (fun HT_ HW_=> ?_)
      generalize q7.drew=L6 at E B I u x z A F G HB hHeld ⊢
      refine pz_ 0 180 17 1 ?_;refine pz_ 1 181 17 3 ?_;refine pz_ 3 183 17 11 ?_;refine pz_ 5 185 17 43 ?_;refine tz6_ 2 182 17 47 ?_;refine tz6_ 4 184 17 63 ?_;refine tz6_ 6 186 17 127 ?_
      refine o1_ 7 (some 187) 17 255 (fun K hK=> ?_)
      refine gs_ Try.func29 #[.agg #[.int .i64 Y,.slice Z y.length X],.int .i64 L,.int .i64 M] ?_
      with_reducible refine(impl_WebTogether.calls e6 Y _ _ y L M true _ ?side1 ?side2 z4.out).mono ?_
      (case side1=>exact qD_ (Kd.R_reads' B.out).2.2)
      (case side2=>exact(Kd.R_reads' B.out).2.1)
      rintro e L7 ⟨rfl,hb⟩
      refine⟨_,rfl,?_⟩
      replace E:=kb_ E hb;replace B:=kb_ B hb;replace I:=kb_ I hb;replace u:=qbl_ u hb;replace x:=qbl_ x hb;replace z:=qbl_ z hb;replace A:=qbl_ A hb;replace F:=qbl_ F hb;replace G:=qbl_ G hb;replace HB:=hs_ hb;clear hb
      refine hK.out _ _ ⟨bl_ z 0,bl_ z 1,bl_ x 0,bl_ x 1,bl_ A 0,bl_ A 1⟩ (fun hHeld=> ?_)
      clear hK K
      refine nm_ 187 ?_
      refine pz_ 8 188 17 511 ?_;refine pz_ 9 189 17 1023 ?_;refine tz6_ 10 190 17 2047 ?_;refine tz6_ 13 193 17 10239 ?_
      refine o1_ 11 (some 191) 17 12287 (fun K hK=> ?_)
      refine gs_ Try.func47 #[.agg #[.int .i64 Y,.slice Z y.length X]] ?_
      with_reducible refine(spec_GraphOf.calls e6 Y _ _ y z5 z6 _ ?side1 ?side2 z7.out).mono ?_
      (case side1=>exact qD_ (Kd.R_reads' B.out).2.2)
      (case side2=>exact(Kd.R_reads' B.out).2.1)
      rintro e L8 ⟨bQ,rfl,ho0,hb⟩
      refine⟨_,rfl,?_⟩
      have q8:=am_ (Kd.R_lower (Kd.R_newB (Kd.R_newB (Kd.R_newB ho0 (qk_ x)) (qk_ A)) (qk_ G)) (below_size qB_));replace E:=kb_ E hb;replace B:=kb_ B hb;replace I:=kb_ I hb;replace u:=qbl_ u hb;replace x:=qbl_ x hb;replace z:=qbl_ z hb;replace A:=qbl_ A hb;replace F:=qbl_ F hb;replace G:=qbl_ G hb;replace HB:=hs_ hb;clear hb ho0
      obtain⟨bR,bS,L9⟩:=Kd.R_slice q8.out
      (first|subst L9|(injection L9 with c1 h5 c2;have h6:=c1.symm;have h7:=c2.symm;clear c1 h5 c2;subst h6;subst h7))
      refine hK.out _ _ ⟨bl_ z 0,bl_ z 1,bl_ x 0,bl_ x 1,bl_ A 0,bl_ A 1⟩ (fun hHeld=> ?_)
      clear hK K
      refine nm_ 191 ?_
      refine pz_ (v:= .slice bR z6.length bS) 12 192 17 16383 ?_ (hy:=Or.inl ⟨by rfl,fun w_=>by go_simp;kernel_rfl⟩)
      refine o1_ 14 (some 194) 17 32767 (fun K hK=> ?_)
      refine gs_ Try.func49 #[.slice bR z6.length bS,.agg #[.int .i64 b7,.int .i64 b8]] ?_
      with_reducible refine(laws_has.calls e6 _ _ z6 b7 b8 true _ ?side1 ?side2 z8.out).mono ?_
      (case side1=>exact qD_ (Kd.R_reads' q8.out).2.2)
      (case side2=>exact(Kd.R_reads' q8.out).2.1)
      rintro e M0 ⟨rfl,hb⟩
      refine⟨_,rfl,?_⟩
      replace E:=kb_ E hb;replace B:=kb_ B hb;replace I:=kb_ I hb;replace q8:=kb_ q8 hb;replace u:=qbl_ u hb;replace x:=qbl_ x hb;replace z:=qbl_ z hb;replace A:=qbl_ A hb;replace F:=qbl_ F hb;replace G:=qbl_ G hb;replace HB:=hs_ hb;clear hb
      refine hK.out _ _ ⟨bl_ z 0,bl_ z 1,bl_ x 0,bl_ x 1,bl_ A 0,bl_ A 1⟩ (fun hHeld=> ?_)
      clear hK K
      refine nm_ 194 ?_
      refine pz_ 15 195 17 65535 ?_;refine pz_ 16 2 17 131071 ?_
      refine done_ (done_of HT_.out (by kernel_rfl)) ?_
      try go_wp2
      go_ret
      exact⟨qr_,qB_⟩
     refine ie_ H ?_ ?_<;>clear H<;>rintro rfl H
     ·have H' :=am_ H;clear H;obtain⟨bT,bU⟩:=nn_ f5;obtain⟨bV,bW⟩:=nn_ i0;obtain⟨bX,bY⟩:=nn_ i1;obtain⟨bZ,ca⟩:=nn_ i2;obtain⟨cb,cc⟩:=nn_ i3
      obtain⟨fD,fE,fF,fG⟩:=bc2_ u
      try go_wp2
      replace E:=rd_ E;replace B:=rd_ B;replace I:=rd_ I;replace u:=bd_ u;replace x:=bd_ x;replace z:=bd_ z;replace A:=bd_ A;replace F:=bd_ F;replace G:=bd_ G;replace HB:=hd_ HB
      refine start_ (n:=32) (S:=fun w' =>True) (ds:=[]) (bm 32 0) (by kernel_rfl) rfl (by kernel_rfl) trivial (fun hHeld=> ?_);refine with_tabW laws_FnTakes.tab23 laws_FnTakes.bits23 (fun HT_ HW_=> ?_)
      generalize wr.drew=M1 at E B I u x z A F G HB hHeld ⊢
      refine pz_ 0 145 32 1 ?_;refine pz_ 1 146 32 3 ?_
      refine pu_ 2 147 32 7 ?_
      refine pu_ 3 148 32 15 ?_
      refine pu_ 4 149 32 31 ?_
      refine pu_ 5 150 32 63 ?_
      refine pu_ 6 151 32 127 ?_
      refine pu_ 7 152 32 255 ?_
      refine pu_ 8 153 32 511 ?_
      refine pu_ 9 154 32 1023 ?_
      refine pu_ 10 155 32 2047 ?_
      refine pu_ 11 156 32 4095 ?_
      refine pu_ 12 157 32 8191 ?_
      refine pu_ 13 158 32 16383 ?_
      refine pu_ 14 159 32 32767 ?_
      refine pu_ 15 160 32 65535 ?_
      refine pu_ 16 161 32 131071 ?_
      refine pu_ 17 162 32 262143 ?_
      refine pu_ 18 163 32 524287 ?_
      refine pu_ 19 164 32 1048575 ?_
      refine pu_ 20 165 32 2097151 ?_
      refine pu_ 21 166 32 4194303 ?_
      refine pu_ 22 167 32 8388607 ?_
      refine pu_ 23 168 32 16777215 ?_
      refine pu_ 24 169 32 33554431 ?_
      refine pu_ 25 170 32 67108863 ?_
      refine pu_ 26 171 32 134217727 ?_
      refine pu_ 27 172 32 268435455 ?_
      refine pu_ 28 173 32 536870911 ?_
      refine pu_ 29 174 32 1073741823 ?_
      refine pz_ 30 175 32 2147483647 ?_;refine pz_ 31 19 32 4294967295 ?_
      refine done_ (done_of HT_.out (by kernel_rfl)) ?_
      try go_wp2
      go_roundg e6
      case measure=>have:=HK1.out;have:=HK2.out;omega
      case rel=>exact⟨(true),(wrap64 (j + 1)),qe_,qe_,H',⟨by have:=HK1.out;have:=HK2.out;omega⟩,⟨ra_ E⟩,⟨ra_ B⟩,⟨ra_ I⟩,⟨qk_ u⟩,⟨qk_ x⟩,⟨qk_ z⟩,⟨qk_ A⟩,⟨qk_ F⟩,⟨qk_ G⟩,⟨qB_⟩⟩
     refine ig_ H ?_;clear H;intro s5 H
     refine jb_ H ?_ ?_<;>clear H<;>intro d2 H
     ·have k5:(((rd_T72 s j).f0)==L)=false:=beq_eq_false_iff_ne.mpr d2
      have k6:(((rd_T72 s j).f0) != L)=true:=bne_iff_ne.mpr d2
      have H' :=am_ H;clear H;obtain⟨cd,ce⟩:=nn_ f5;obtain⟨cf,cg⟩:=nn_ i0;obtain⟨ch,ci⟩:=nn_ i1;obtain⟨cj,ck⟩:=nn_ i2;obtain⟨cl,cm⟩:=nn_ i3
      obtain⟨fH,fI,fJ,fK⟩:=bc2_ u
      try go_wp2
      replace E:=rd_ E;replace B:=rd_ B;replace I:=rd_ I;replace u:=bd_ u;replace x:=bd_ x;replace z:=bd_ z;replace A:=bd_ A;replace F:=bd_ F;replace G:=bd_ G;replace HB:=hd_ HB
      have d3:=dt_ j
      have d4:=du_ j s.length
      obtain⟨q,d5,m2,m3,m4,m5⟩:=at_T72 (Kd.R_reads' E.out).2.2 j (ot_ d3) (ot_ d4)
      cases d5
      refine start_ (n:=32) (S:=fun w' =>w'.cell? ⟨J,0,none⟩=some (.int .i64 O)∧w'.cell? ⟨J,1,none⟩=some (.slice (some q) s.length U)∧w'.cell? ⟨T,0,none⟩=some (.int .i64 L)∧w'.cell? ⟨T,1,none⟩=some (.int .i64 M)∧w'.cell? (q.add ((j).toNat * 4))=some (.int .i64 ((rd_T72 s j).f0))∧w'.cell? ⟨(q.add ((j).toNat * 4)).block,(q.add ((j).toNat * 4)).off + 1,none⟩=some (.int .i64 ((rd_T72 s j).f1))∧w'.cell? ⟨(q.add ((j).toNat * 4)).block,(q.add ((j).toNat * 4)).off + 2,none⟩=some (.int .i64 ((rd_T72 s j).f2))∧w'.cell? ⟨(q.add ((j).toNat * 4)).block,(q.add ((j).toNat * 4)).off + 3,none⟩=some (.bool ((rd_T72 s j).f3))) (ds:=[]) (bm 32 0) (by kernel_rfl) rfl (by kernel_rfl) ⟨bl_ u 0,bl_ u 1,bl_ x 0,bl_ x 1,m2,m3,m4,m5⟩ (fun hHeld=> ?_);refine with_tabW laws_FnTakes.tab23 laws_FnTakes.bits23 (fun HT_ HW_=> ?_)
      generalize wr.drew=M2 at E B I u x z A F G HB m2 m3 m4 m5 hHeld ⊢
      refine pz_ 0 145 32 1 ?_;refine pz_ 1 146 32 3 ?_;refine pz_ 2 147 32 7 ?_;refine pz_ 4 149 32 23 ?_;refine pz_ 8 153 32 279 ?_;refine tz8_ 3 148 32 287 ?_;refine pz_ 5 150 32 319 ?_;refine pz_ 6 151 32 383 ?_;refine tz8_ 7 152 32 511 ?_;refine tz8_ 9 154 32 1023 ?_;refine pz_ 10 155 32 2047 ?_;refine pz_ 11 156 32 4095 ?_
      refine pu_ 12 157 32 8191 ?_
      refine pu_ 13 158 32 16383 ?_
      refine pu_ 14 159 32 32767 ?_
      refine pu_ 15 160 32 65535 ?_
      refine pu_ 16 161 32 131071 ?_
      refine pu_ 17 162 32 262143 ?_
      refine pu_ 18 163 32 524287 ?_
      refine pu_ 19 164 32 1048575 ?_
      refine pu_ 20 165 32 2097151 ?_
      refine pz_ 21 166 32 4194303 ?_;refine pz_ 22 167 32 8388607 ?_
      refine pu_ 23 168 32 16777215 ?_
      refine pu_ 24 169 32 33554431 ?_
      refine pu_ 25 170 32 67108863 ?_
      refine pu_ 26 171 32 134217727 ?_
      refine pu_ 27 172 32 268435455 ?_
      refine pu_ 28 173 32 536870911 ?_
      refine pz_ 29 174 32 1073741823 ?_;refine pz_ 30 175 32 2147483647 ?_;refine pz_ 31 19 32 4294967295 ?_
      refine done_ (done_of HT_.out (by kernel_rfl)) ?_
      try go_wp2
      go_roundg e6
      case measure=>have:=HK1.out;have:=HK2.out;omega
      case rel=>exact⟨(false),(wrap64 (j + 1)),qe_,qe_,H',⟨by have:=HK1.out;have:=HK2.out;omega⟩,⟨ra_ E⟩,⟨ra_ B⟩,⟨ra_ I⟩,⟨qk_ u⟩,⟨qk_ x⟩,⟨qk_ z⟩,⟨qk_ A⟩,⟨qk_ F⟩,⟨qk_ G⟩,⟨qB_⟩⟩
     have k5:(((rd_T72 s j).f0)==L)=true:=beq_iff_eq.mpr d2
     have k6:(((rd_T72 s j).f0) != L)=false:=bne_eq_false_iff_eq.mpr d2
     clear d2
     refine jc_ H ?_ ?_<;>clear H<;>intro d6 H
     ·have k7:(((rd_T72 s j).f1)==M)=true:=beq_iff_eq.mpr d6
      have k8:(((rd_T72 s j).f1) != M)=false:=bne_eq_false_iff_eq.mpr d6
      clear d6;have H' :=am_ H;clear H;obtain⟨cn,co⟩:=nn_ f5;obtain⟨cp,cq⟩:=nn_ i0;obtain⟨cr,ct⟩:=nn_ i1;obtain⟨cu,cv⟩:=nn_ i2;obtain⟨cw,cx⟩:=nn_ i3
      obtain⟨fL,fM,fN,fO⟩:=bc2_ u
      try go_wp2
      replace E:=rd_ E;replace B:=rd_ B;replace I:=rd_ I;replace u:=bd_ u;replace x:=bd_ x;replace z:=bd_ z;replace A:=bd_ A;replace F:=bd_ F;replace G:=bd_ G;replace HB:=hd_ HB
      have d3:=dt_ j
      have d4:=du_ j s.length
      obtain⟨q,d5,m2,m3,m4,m5⟩:=at_T72 (Kd.R_reads' E.out).2.2 j (ot_ d3) (ot_ d4)
      cases d5
      have j5:=dt_ j
      have j6:=du_ j s.length
      obtain⟨f4,j7,q9,r0,r1,r2⟩:=at_T72 (Kd.R_reads' E.out).2.2 j (ot_ j5) (ot_ j6)
      obtain rfl:q=f4:=(by injection j7)
      have r3:=dt_ j
      have r4:=du_ j s.length
      obtain⟨n0,r5,M3,M4,M5,M6⟩:=at_T72 (Kd.R_reads' E.out).2.2 j (ot_ r3) (ot_ r4)
      obtain rfl:q=n0:=(by injection r5)
      refine start_ (n:=32) (S:=fun w' =>w'.cell? ⟨J,0,none⟩=some (.int .i64 O)∧w'.cell? ⟨J,1,none⟩=some (.slice (some q) s.length U)∧w'.cell? ⟨T,0,none⟩=some (.int .i64 L)∧w'.cell? ⟨T,1,none⟩=some (.int .i64 M)∧w'.cell? (q.add ((j).toNat * 4))=some (.int .i64 ((rd_T72 s j).f0))∧w'.cell? ⟨(q.add ((j).toNat * 4)).block,(q.add ((j).toNat * 4)).off + 1,none⟩=some (.int .i64 ((rd_T72 s j).f1))∧w'.cell? ⟨(q.add ((j).toNat * 4)).block,(q.add ((j).toNat * 4)).off + 2,none⟩=some (.int .i64 ((rd_T72 s j).f2))∧w'.cell? ⟨(q.add ((j).toNat * 4)).block,(q.add ((j).toNat * 4)).off + 3,none⟩=some (.bool ((rd_T72 s j).f3))∧w'.cell? (q.add ((j).toNat * 4))=some (.int .i64 ((rd_T72 s j).f0))∧w'.cell? ⟨(q.add ((j).toNat * 4)).block,(q.add ((j).toNat * 4)).off + 1,none⟩=some (.int .i64 ((rd_T72 s j).f1))∧w'.cell? ⟨(q.add ((j).toNat * 4)).block,(q.add ((j).toNat * 4)).off + 2,none⟩=some (.int .i64 ((rd_T72 s j).f2))∧w'.cell? ⟨(q.add ((j).toNat * 4)).block,(q.add ((j).toNat * 4)).off + 3,none⟩=some (.bool ((rd_T72 s j).f3))∧w'.cell? (q.add ((j).toNat * 4))=some (.int .i64 ((rd_T72 s j).f0))∧w'.cell? ⟨(q.add ((j).toNat * 4)).block,(q.add ((j).toNat * 4)).off + 1,none⟩=some (.int .i64 ((rd_T72 s j).f1))∧w'.cell? ⟨(q.add ((j).toNat * 4)).block,(q.add ((j).toNat * 4)).off + 2,none⟩=some (.int .i64 ((rd_T72 s j).f2))∧w'.cell? ⟨(q.add ((j).toNat * 4)).block,(q.add ((j).toNat * 4)).off + 3,none⟩=some (.bool ((rd_T72 s j).f3))) (ds:=[]) (bm 32 0) (by kernel_rfl) rfl (by kernel_rfl) ⟨bl_ u 0,bl_ u 1,bl_ x 0,bl_ x 1,m2,m3,m4,m5,q9,r0,r1,r2,M3,M4,M5,M6⟩ (fun hHeld=> ?_);refine with_tabW laws_FnTakes.tab23 laws_FnTakes.bits23 (fun HT_ HW_=> ?_)
      generalize wr.drew=M7 at E B I u x z A F G HB m2 m3 m4 m5 q9 r0 r1 r2 M3 M4 M5 M6 hHeld ⊢
      refine pz_ 0 145 32 1 ?_;refine pz_ 1 146 32 3 ?_;refine pz_ 2 147 32 7 ?_;refine pz_ 4 149 32 23 ?_;refine pz_ 8 153 32 279 ?_;refine tz16_ 3 148 (bm 32 287) ?_;refine pz_ 5 150 32 319 ?_;refine pz_ 6 151 32 383 ?_;refine tz16_ 7 152 (bm 32 511) ?_;refine tz16_ 9 154 (bm 32 1023) ?_;refine pz_ 10 155 32 2047 ?_;refine pz_ 11 156 32 4095 ?_;refine pz_ 12 157 32 8191 ?_;refine pz_ 14 159 32 24575 ?_;refine pz_ 18 163 32 286719 ?_;refine tz16_ 13 158 (bm 32 294911) ?_;refine pz_ 15 160 32 327679 ?_;refine pz_ 16 161 32 393215 ?_;refine tz16_ 17 162 (bm 32 524287) ?_;refine tz16_ 19 164 (bm 32 1048575) ?_;refine pz_ 20 165 32 2097151 ?_;refine pz_ 21 166 32 4194303 ?_;refine pz_ 22 167 32 8388607 ?_;refine pz_ 23 168 32 16777215 ?_;refine pz_ 25 170 32 50331647 ?_;refine tz16_ 24 169 (bm 32 67108863) ?_;refine pz_ 26 171 32 134217727 ?_;refine pz_ 27 172 32 268435455 ?_;refine tz16_ 28 173 (bm 32 536870911) ?_;refine pz_ 29 174 32 1073741823 ?_;refine pz_ 30 175 32 2147483647 ?_;refine pz_ 31 19 32 4294967295 ?_
      refine done_ (done_of HT_.out (by kernel_rfl)) ?_
      try go_wp2
      go_roundg e6
      case measure=>have:=HK1.out;have:=HK2.out;omega
      case rel=>exact⟨((rd_T72 s j).f3),(wrap64 (j + 1)),qe_,qe_,H',⟨by have:=HK1.out;have:=HK2.out;omega⟩,⟨ra_ E⟩,⟨ra_ B⟩,⟨ra_ I⟩,⟨qk_ u⟩,⟨qk_ x⟩,⟨qk_ z⟩,⟨qk_ A⟩,⟨qk_ F⟩,⟨qk_ G⟩,⟨qB_⟩⟩
     have k7:(((rd_T72 s j).f1)==M)=false:=beq_eq_false_iff_ne.mpr d6
     have k8:(((rd_T72 s j).f1) != M)=true:=bne_iff_ne.mpr d6
     have H' :=am_ H;clear H;obtain⟨cy,cz⟩:=nn_ f5;obtain⟨cA,cB⟩:=nn_ i0;obtain⟨cC,cD⟩:=nn_ i1;obtain⟨cE,cF⟩:=nn_ i2;obtain⟨cG,cH⟩:=nn_ i3
     obtain⟨fP,fQ,fR,fS⟩:=bc2_ u
     try go_wp2
     replace E:=rd_ E;replace B:=rd_ B;replace I:=rd_ I;replace u:=bd_ u;replace x:=bd_ x;replace z:=bd_ z;replace A:=bd_ A;replace F:=bd_ F;replace G:=bd_ G;replace HB:=hd_ HB
     have d3:=dt_ j
     have d4:=du_ j s.length
     obtain⟨q,d5,m2,m3,m4,m5⟩:=at_T72 (Kd.R_reads' E.out).2.2 j (ot_ d3) (ot_ d4)
     cases d5
     have j5:=dt_ j
     have j6:=du_ j s.length
     obtain⟨f4,j7,q9,r0,r1,r2⟩:=at_T72 (Kd.R_reads' E.out).2.2 j (ot_ j5) (ot_ j6)
     obtain rfl:q=f4:=(by injection j7)
     refine start_ (n:=32) (S:=fun w' =>w'.cell? ⟨J,0,none⟩=some (.int .i64 O)∧w'.cell? ⟨J,1,none⟩=some (.slice (some q) s.length U)∧w'.cell? ⟨T,0,none⟩=some (.int .i64 L)∧w'.cell? ⟨T,1,none⟩=some (.int .i64 M)∧w'.cell? (q.add ((j).toNat * 4))=some (.int .i64 ((rd_T72 s j).f0))∧w'.cell? ⟨(q.add ((j).toNat * 4)).block,(q.add ((j).toNat * 4)).off + 1,none⟩=some (.int .i64 ((rd_T72 s j).f1))∧w'.cell? ⟨(q.add ((j).toNat * 4)).block,(q.add ((j).toNat * 4)).off + 2,none⟩=some (.int .i64 ((rd_T72 s j).f2))∧w'.cell? ⟨(q.add ((j).toNat * 4)).block,(q.add ((j).toNat * 4)).off + 3,none⟩=some (.bool ((rd_T72 s j).f3))∧w'.cell? (q.add ((j).toNat * 4))=some (.int .i64 ((rd_T72 s j).f0))∧w'.cell? ⟨(q.add ((j).toNat * 4)).block,(q.add ((j).toNat * 4)).off + 1,none⟩=some (.int .i64 ((rd_T72 s j).f1))∧w'.cell? ⟨(q.add ((j).toNat * 4)).block,(q.add ((j).toNat * 4)).off + 2,none⟩=some (.int .i64 ((rd_T72 s j).f2))∧w'.cell? ⟨(q.add ((j).toNat * 4)).block,(q.add ((j).toNat * 4)).off + 3,none⟩=some (.bool ((rd_T72 s j).f3))) (ds:=[]) (bm 32 0) (by kernel_rfl) rfl (by kernel_rfl) ⟨bl_ u 0,bl_ u 1,bl_ x 0,bl_ x 1,m2,m3,m4,m5,q9,r0,r1,r2⟩ (fun hHeld=> ?_);refine with_tabW laws_FnTakes.tab23 laws_FnTakes.bits23 (fun HT_ HW_=> ?_)
     generalize wr.drew=M8 at E B I u x z A F G HB m2 m3 m4 m5 q9 r0 r1 r2 hHeld ⊢
     refine pz_ 0 145 32 1 ?_;refine pz_ 1 146 32 3 ?_;refine pz_ 2 147 32 7 ?_;refine pz_ 4 149 32 23 ?_;refine pz_ 8 153 32 279 ?_;refine tz12_ 3 148 (bm 32 287) ?_;refine pz_ 5 150 32 319 ?_;refine pz_ 6 151 32 383 ?_;refine tz12_ 7 152 (bm 32 511) ?_;refine tz12_ 9 154 (bm 32 1023) ?_;refine pz_ 10 155 32 2047 ?_;refine pz_ 11 156 32 4095 ?_;refine pz_ 12 157 32 8191 ?_;refine pz_ 14 159 32 24575 ?_;refine pz_ 18 163 32 286719 ?_;refine tz12_ 13 158 (bm 32 294911) ?_;refine pz_ 15 160 32 327679 ?_;refine pz_ 16 161 32 393215 ?_;refine tz12_ 17 162 (bm 32 524287) ?_;refine tz12_ 19 164 (bm 32 1048575) ?_;refine pz_ 20 165 32 2097151 ?_;refine pz_ 21 166 32 4194303 ?_;refine pz_ 22 167 32 8388607 ?_
     refine pu_ 23 168 32 16777215 ?_
     refine pu_ 24 169 32 33554431 ?_
     refine pu_ 25 170 32 67108863 ?_
     refine pu_ 26 171 32 134217727 ?_
     refine pu_ 27 172 32 268435455 ?_
     refine pu_ 28 173 32 536870911 ?_
     refine pz_ 29 174 32 1073741823 ?_;refine pz_ 30 175 32 2147483647 ?_;refine pz_ 31 19 32 4294967295 ?_
     refine done_ (done_of HT_.out (by kernel_rfl)) ?_
     try go_wp2
     go_roundg e6
     case measure=>have:=HK1.out;have:=HK2.out;omega
     case rel=>exact⟨(false),(wrap64 (j + 1)),qe_,qe_,H',⟨by have:=HK1.out;have:=HK2.out;omega⟩,⟨ra_ E⟩,⟨ra_ B⟩,⟨ra_ I⟩,⟨qk_ u⟩,⟨qk_ x⟩,⟨qk_ z⟩,⟨qk_ A⟩,⟨qk_ F⟩,⟨qk_ G⟩,⟨qB_⟩⟩
/-- THE ONE PURE STATEMENT of laws_FnTakes: yours. -/
def laws_FnTakes.Pure:Prop:=∀ (l0:List Int),l0.length≤maxLen→l0.length * 1≤140737488351232→(∀ x∈l0,(Lit.int .u8 x).wf=true)→∃ k,laws_FnTakes.f k l0=some true
theorem laws_FnTakes.walk (P:laws_FnTakes.Pure) (a0:Option Addr) (len0 cap0:Nat) (z0:List Int) (w:World) (w0:(a0=none∧len0=0∧cap0=0∧z0=[])∨∃ x,a0=some x∧len0≤cap0∧cap0≤maxLen∧z0.length=cap0∧(∀ i,i<z0.length→w.cell? (x.add i)=some (.int .u8 (z0.getD i 0)))∧∀ n∈z0,(Lit.int .u8 n).wf=true) (y0:len0 * 1≤140737488351232):
    Calls Try.prog 11 #[.slice a0 len0 cap0] w fun e w' =>e= .returned (.bool true)∧Below w.heap.size w w' :=by
  obtain⟨l0,rfl,hr0,hm0,hw0,hc0⟩:=ReadsInt.ofRowC w0
  obtain⟨k,h⟩:=P l0 hm0 y0 hw0
  refine(laws_FnTakes.calls k _ _ l0 w (Kd.C_of_reads (d:=(0:Int)) (h1:=fun _=>rfl) hr0) hc0 h).mono ?_
  rintro e w' ⟨rfl,hd⟩
  exact⟨rfl,hd⟩
end Go.Proofs.Ytbkklafkoegdpaa.QFnTakes

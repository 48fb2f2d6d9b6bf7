import Derived.Test.YtbkklafkoegdpaaQFnTakesx0
namespace Go.Proofs.Ytbkklafkoegdpaa.QFnTakes
open Go.RowKit Go.Proofs.YtbkklafkoegdpaaW.PrintWords Go.Proofs.YtbkklafkoegdpaaW.PrintLast Go.Proofs.YtbkklafkoegdpaaW.PrintMore
set_option maxHeartbeats 8000000
set_option maxRecDepth 100000
set_option linter.unusedVariables false
set_option linter.unusedSimpArgs false
mutual
def spec_l08Put.l0:Nat→List (S72)→List (S72)→Int→Int→Int→Int→Bool→Option ((List (S72)))
  |0,_,_,_,_,_,_,_=>none
  |k + 1,x0,x5,x6,x564000,x564001,x564002,x564003=>if x6<(x0.length:Int) then (if 0≤x6 then (if ((rd_T72 x0 x6).f0)<x564000 then (if x5.length<4398046511104 then (spec_l08Put.l0 k x0 (x5++[(⟨(rd_T72 x0 x6).f0,(rd_T72 x0 x6).f1,(rd_T72 x0 x6).f2,(rd_T72 x0 x6).f3⟩:S72)]) (wrap64 (x6 + 1)) x564000 x564001 x564002 x564003) else (none)) else (if ((rd_T72 x0 x6).f0)=x564000 then (if ((rd_T72 x0 x6).f1)<x564001 then (if x5.length<4398046511104 then (spec_l08Put.l0 k x0 (x5++[(⟨(rd_T72 x0 x6).f0,(rd_T72 x0 x6).f1,(rd_T72 x0 x6).f2,(rd_T72 x0 x6).f3⟩:S72)]) (wrap64 (x6 + 1)) x564000 x564001 x564002 x564003) else (none)) else (spec_l08Put.l0 k x0 x5 (wrap64 (x6 + 1)) x564000 x564001 x564002 x564003)) else (spec_l08Put.l0 k x0 x5 (wrap64 (x6 + 1)) x564000 x564001 x564002 x564003))) else (none)) else (if x5.length<4398046511104 then (spec_l08Put.l1 k x0 (x5++[(⟨x564000,x564001,x564002,x564003⟩:S72)]) 0 x564000 x564001 x564002 x564003) else (none))
def spec_l08Put.l1:Nat→List (S72)→List (S72)→Int→Int→Int→Int→Bool→Option ((List (S72)))
  |0,_,_,_,_,_,_,_=>none
  |k + 1,x0,x5,x7,x564000,x564001,x564002,x564003=>if x7<(x0.length:Int) then (if 0≤x7 then (if ((rd_T72 x0 x7).f0)>x564000 then (if x5.length<4398046511104 then (spec_l08Put.l1 k x0 (x5++[(⟨(rd_T72 x0 x7).f0,(rd_T72 x0 x7).f1,(rd_T72 x0 x7).f2,(rd_T72 x0 x7).f3⟩:S72)]) (wrap64 (x7 + 1)) x564000 x564001 x564002 x564003) else (none)) else (if ((rd_T72 x0 x7).f0)=x564000 then (if ((rd_T72 x0 x7).f1)>x564001 then (if x5.length<4398046511104 then (spec_l08Put.l1 k x0 (x5++[(⟨(rd_T72 x0 x7).f0,(rd_T72 x0 x7).f1,(rd_T72 x0 x7).f2,(rd_T72 x0 x7).f3⟩:S72)]) (wrap64 (x7 + 1)) x564000 x564001 x564002 x564003) else (none)) else (spec_l08Put.l1 k x0 x5 (wrap64 (x7 + 1)) x564000 x564001 x564002 x564003)) else (spec_l08Put.l1 k x0 x5 (wrap64 (x7 + 1)) x564000 x564001 x564002 x564003))) else (none)) else (some x5)
end
def spec_l08Put.f (k:Nat) (l0:List (S72)) (a1_0:Int) (a1_1:Int) (a1_2:Int) (a1_3:Bool):Option ((List (S72))):=spec_l08Put.l0 k l0 (([]:List (S72))) 0 a1_0 a1_1 a1_2 a1_3
theorem spec_l08Put.calls (k:Nat) (k9:Option Addr) (l4:Nat) (l0:List (S72)) (d:Int) (i:Int) (j:Int) (l:Bool) (r:List (S72)) (w:World) (hr0:Kd.C k72 w k9 l0.length l0) (hc0:l0.length≤l4) (h:spec_l08Put.f k l0 d i j l=some r):
  Calls Try.prog 88 #[.slice k9 l0.length l4,.agg #[.int .i64 d,.int .i64 i,.int .i64 j,.bool l]] w fun e w' =>∃ g4:Value,e= .returned (g4)∧Kd.R k72 72 w' w.heap.size (fun _=>True) g4 r∧Below w.heap.size w w' :=by
 have hu72:=Try.underlying72
 have D:=am_ hr0
 have r4:=am_ hc0
 clear hr0 hc0
 have HB:=am_ (Below.refl w.heap.size w)
 rw[spec_l08Put.f]at h;have H:=h;clear h
 generalize b2:(([]:List (S72)))=m9 at H;replace H:=bh_ H;have I:=am_ b2.symm;clear b2;have H' :=am_ H;clear H
 go_enter Try.func88,Try.ntmps88
 go_wp2_with (first|((with_reducible refine gd_ 3 ?_);refine by_ 3 (cs:= #[.int .i64 d,.int .i64 i,.int .i64 j,.bool l]) (t:=72) ?_;intro E hg n0 g hb;have n1:=gw_ hg;replace HB:=hs_ hb;clear hb hg)|((with_reducible refine gd_ 8 ?_);refine Kd.R_lit k72 _ 72 ?hg (N:=8) ?hd (xs:=([]:List (S72))) (inner:=[]) (ok:=fun _=>True) (okp:=fun _=>True) ?hr ?hp (fun _ hk=>hk) trivial (Below.refl _ _) (Nat.le_refl _) (by simp) ?_;(case hd=>rfl);(case hg=>rfl);(case hr=>first|(go_simp;done)|(go_simp;rfl));(case hp=>exact(Reps.none _ _));intro n2 n3 ho5 hb hg_ hnew_;clear hg_ hnew_;(first|rw[←I.out]at ho5|(simp only[Int.reduceToNat]at ho5;rw[←I.out]at ho5));have l5:=am_ (Kd.R_lower (Kd.R_newB ho5 (qk_ g)) (below_size qB_));replace g:=qbl_ g hb;replace HB:=hs_ hb;clear hb ho5))
 repeat(go_quiet (fail);try go_wp2_with (first|((with_reducible refine gd_ 3 ?_);refine by_ 3 (cs:= #[.int .i64 d,.int .i64 i,.int .i64 j,.bool l]) (t:=72) ?_;intro E hg n0 g hb;have n1:=gw_ hg;replace HB:=hs_ hb;clear hb hg)|((with_reducible refine gd_ 8 ?_);refine Kd.R_lit k72 _ 72 ?hg (N:=8) ?hd (xs:=([]:List (S72))) (inner:=[]) (ok:=fun _=>True) (okp:=fun _=>True) ?hr ?hp (fun _ hk=>hk) trivial (Below.refl _ _) (Nat.le_refl _) (by simp) ?_;(case hd=>rfl);(case hg=>rfl);(case hr=>first|(go_simp;done)|(go_simp;rfl));(case hp=>exact(Reps.none _ _));intro n2 n3 ho5 hb hg_ hnew_;clear hg_ hnew_;(first|rw[←I.out]at ho5|(simp only[Int.reduceToNat]at ho5;rw[←I.out]at ho5));have l5:=am_ (Kd.R_lower (Kd.R_newB ho5 (qk_ g)) (below_size qB_));replace g:=qbl_ g hb;replace HB:=hs_ hb;clear hb ho5)))
 go_loopg [5,6] k (fun kq v5 v6 w' =>∃ (m:List (S72)) (c:Int),v6= .int .i64 c∧Aside0 (spec_l08Put.l0 kq l0 m c d i j l=some r)∧Aside0 (kq≤k)∧Aside0 (Kd.R k72 72 w' w.heap.size (fun k_=>k_≠E) v5 m)∧Aside0 (w'.heap[E]? =some (.cells #[.int .i64 d,.int .i64 i,.int .i64 j,.bool l] 72 (0,0)))∧Aside0 (Below w.heap.size w w'))
 case atStart=>exact⟨(m9),(0),qe_,H',⟨Nat.le_refl _⟩,⟨by(with_reducible repeat(first|apply Kd.R_alloc|apply Kd.R_drewN|apply Kd.R_drew));exact Kd.R_mono l5.out (fun _ hk=>hk.2)⟩,⟨qk_ g⟩,⟨qB_⟩⟩
 case round=>
  clear H'
  obtain⟨m,c,rfl,HA,HK1,n,g,HB⟩:=hrel
  cases gk with
  |zero=>exact absurd HA.out (by simp [spec_l08Put.l0])
  |succ f9=>
   have H:=HA.out;clear HA
   simp only[spec_l08Put.l0]at H
   refine ic_ H ?_ ?_<;>clear H<;>intro g5 H
   ·refine ig_ H ?_;clear H;intro g6 H
    refine ic_ H ?_ ?_<;>clear H<;>intro g7 H
    ·refine jg_ H ?_;clear H;intro i8 H
     have b3:=am_ i8
     clear i8
     generalize b4:(m++[(⟨(rd_T72 l0 c).f0,(rd_T72 l0 c).f1,(rd_T72 l0 c).f2,(rd_T72 l0 c).f3⟩:S72)])=n4 at H;replace H:=bh_ H;have T:=am_ b4.symm;clear b4;have H' :=am_ H;clear H
     have s:=dt_ c
     have u:=du_ c l0.length
     obtain⟨o,v,a8,a9,b0,b1⟩:=at_T72 D.out c (ot_ s) (ot_ u)
     cases v
     replace a8:=qx_ HB a8
     replace a9:=qx_ HB a9
     replace b0:=qx_ HB b0
     replace b1:=qx_ HB b1
     obtain⟨n5,n6,n7,n8,n9,o0,o1,o2⟩:=bc4_ g
     have d6:=dt_ c
     have d7:=du_ c l0.length
     obtain⟨e4,g8,i9,j5,j6,j7⟩:=at_T72 D.out c (ot_ d6) (ot_ d7)
     obtain rfl:o=e4:=(by injection g8)
     replace i9:=qx_ HB i9
     replace j5:=qx_ HB j5
     replace j6:=qx_ HB j6
     replace j7:=qx_ HB j7
     go_wp2_with (first|((with_reducible refine gate_builtin (b:= .append) (xs:= #[.tmp 43,.tmp 48]) rfl ?_);at_builtin;refine Kd.R_append k72 (w0:=w) w.heap.size rfl (.tmp 43) (.tmp 48) 27 72 (.agg #[(.int .i64 0),(.int .i64 0),(.int .i64 0),(.bool false)]) 32 rfl Try.underlying27 info72 rfl (by decide) (by omega) u5 m (⟨(rd_T72 l0 c).f0,(rd_T72 l0 c).f1,(rd_T72 l0 c).f2,(rd_T72 l0 c).f3⟩:S72) [.int .i64 ((rd_T72 l0 c).f0),.int .i64 ((rd_T72 l0 c).f1),.int .i64 ((rd_T72 l0 c).f2),.bool ((rd_T72 l0 c).f3)] (fun k_=>k_≠E) (fun _=>False) rfl rfl ?aP (fun _ hk=>hk.elim) ?aF ?aO ?aB ?aS ?aL ?_;(case aP=>exact k72_mkM _ _ _ (⟨(rd_T72 l0 c).f0,(rd_T72 l0 c).f1,(rd_T72 l0 c).f2,(rd_T72 l0 c).f3⟩:S72));(case aB=>exact qB_);(case aF=>exact(fun k_ hk=>Kd.freshB (qk_ g) k_ hk));(case aO=>exact(qR_ n));(case aS=>exact(below_size qB_));(case aL=>have:=b3.out;omega);intro l7 g9 ho hb hg hat;rw[←T.out]at ho;have j8:=am_ (ho);replace g:=am_ (blk_grown (qk_ g) hg (Kd.R_away n.out (fun _ hk=>hk)));replace HB:=am_ (hb);clear n ho hb hg hat))
     repeat(go_quiet (first|((with_reducible refine gate_builtin (b:= .append) (xs:= #[.tmp 43,.tmp 48]) rfl ?_);at_builtin;refine Kd.R_append k72 (w0:=w) w.heap.size rfl (.tmp 43) (.tmp 48) 27 72 (.agg #[(.int .i64 0),(.int .i64 0),(.int .i64 0),(.bool false)]) 32 rfl Try.underlying27 info72 rfl (by decide) (by omega) u5 m (⟨(rd_T72 l0 c).f0,(rd_T72 l0 c).f1,(rd_T72 l0 c).f2,(rd_T72 l0 c).f3⟩:S72) [.int .i64 ((rd_T72 l0 c).f0),.int .i64 ((rd_T72 l0 c).f1),.int .i64 ((rd_T72 l0 c).f2),.bool ((rd_T72 l0 c).f3)] (fun k_=>k_≠E) (fun _=>False) rfl rfl ?aP (fun _ hk=>hk.elim) ?aF ?aO ?aB ?aS ?aL ?_;(case aP=>exact k72_mkM _ _ _ (⟨(rd_T72 l0 c).f0,(rd_T72 l0 c).f1,(rd_T72 l0 c).f2,(rd_T72 l0 c).f3⟩:S72));(case aB=>exact qB_);(case aF=>exact(fun k_ hk=>Kd.freshB (qk_ g) k_ hk));(case aO=>exact(qR_ n));(case aS=>exact(below_size qB_));(case aL=>have:=b3.out;omega);intro l7 g9 ho hb hg hat;rw[←T.out]at ho;have j8:=am_ (ho);replace g:=am_ (blk_grown (qk_ g) hg (Kd.R_away n.out (fun _ hk=>hk)));replace HB:=am_ (hb);clear n ho hb hg hat));try go_wp2_with (first|((with_reducible refine gate_builtin (b:= .append) (xs:= #[.tmp 43,.tmp 48]) rfl ?_);at_builtin;refine Kd.R_append k72 (w0:=w) w.heap.size rfl (.tmp 43) (.tmp 48) 27 72 (.agg #[(.int .i64 0),(.int .i64 0),(.int .i64 0),(.bool false)]) 32 rfl Try.underlying27 info72 rfl (by decide) (by omega) u5 m (⟨(rd_T72 l0 c).f0,(rd_T72 l0 c).f1,(rd_T72 l0 c).f2,(rd_T72 l0 c).f3⟩:S72) [.int .i64 ((rd_T72 l0 c).f0),.int .i64 ((rd_T72 l0 c).f1),.int .i64 ((rd_T72 l0 c).f2),.bool ((rd_T72 l0 c).f3)] (fun k_=>k_≠E) (fun _=>False) rfl rfl ?aP (fun _ hk=>hk.elim) ?aF ?aO ?aB ?aS ?aL ?_;(case aP=>exact k72_mkM _ _ _ (⟨(rd_T72 l0 c).f0,(rd_T72 l0 c).f1,(rd_T72 l0 c).f2,(rd_T72 l0 c).f3⟩:S72));(case aB=>exact qB_);(case aF=>exact(fun k_ hk=>Kd.freshB (qk_ g) k_ hk));(case aO=>exact(qR_ n));(case aS=>exact(below_size qB_));(case aL=>have:=b3.out;omega);intro l7 g9 ho hb hg hat;rw[←T.out]at ho;have j8:=am_ (ho);replace g:=am_ (blk_grown (qk_ g) hg (Kd.R_away n.out (fun _ hk=>hk)));replace HB:=am_ (hb);clear n ho hb hg hat)))
     go_roundg f9
     case measure=>have:=HK1.out;omega
     case rel=>exact⟨(n4),(wrap64 (c + 1)),qe_,H',⟨by have:=HK1.out;omega⟩,⟨ra_ j8⟩,⟨qk_ g⟩,⟨qB_⟩⟩
    refine jb_ H ?_ ?_<;>clear H<;>intro a7 H
    ·have b5:(((rd_T72 l0 c).f0)==d)=false:=beq_eq_false_iff_ne.mpr a7
     have b6:(((rd_T72 l0 c).f0) != d)=true:=bne_iff_ne.mpr a7
     have H' :=am_ H;clear H
     have s:=dt_ c
     have u:=du_ c l0.length
     obtain⟨o,v,a8,a9,b0,b1⟩:=at_T72 D.out c (ot_ s) (ot_ u)
     cases v
     replace a8:=qx_ HB a8
     replace a9:=qx_ HB a9
     replace b0:=qx_ HB b0
     replace b1:=qx_ HB b1
     obtain⟨o3,o4,o5,o6,o7,o8,o9,p0⟩:=bc4_ g
     have F:=dt_ c
     have G:=du_ c l0.length
     obtain⟨x,J,d0,d1,d2,d3⟩:=at_T72 D.out c (ot_ F) (ot_ G)
     obtain rfl:o=x:=(by injection J)
     replace d0:=qx_ HB d0
     replace d1:=qx_ HB d1
     replace d2:=qx_ HB d2
     replace d3:=qx_ HB d3
     go_wp2
     repeat(go_quiet (fail);try go_wp2)
     go_roundg f9
     case measure=>have:=HK1.out;omega
     case rel=>exact⟨(m),(wrap64 (c + 1)),qe_,H',⟨by have:=HK1.out;omega⟩,⟨ra_ n⟩,⟨qk_ g⟩,⟨qB_⟩⟩
    have b5:(((rd_T72 l0 c).f0)==d)=true:=beq_iff_eq.mpr a7
    have b6:(((rd_T72 l0 c).f0) != d)=false:=bne_eq_false_iff_eq.mpr a7
    clear a7
    refine ib_ H ?_ ?_<;>clear H<;>intro e5 H
    ·have H' :=am_ H;clear H
     have s:=dt_ c
     have u:=du_ c l0.length
     obtain⟨o,v,a8,a9,b0,b1⟩:=at_T72 D.out c (ot_ s) (ot_ u)
     cases v
     replace a8:=qx_ HB a8
     replace a9:=qx_ HB a9
     replace b0:=qx_ HB b0
     replace b1:=qx_ HB b1
     obtain⟨p1,p2,p3,p4,p5,p6,p7,p8⟩:=bc4_ g
     have F:=dt_ c
     have G:=du_ c l0.length
     obtain⟨x,J,d0,d1,d2,d3⟩:=at_T72 D.out c (ot_ F) (ot_ G)
     obtain rfl:o=x:=(by injection J)
     replace d0:=qx_ HB d0
     replace d1:=qx_ HB d1
     replace d2:=qx_ HB d2
     replace d3:=qx_ HB d3
     have a5:=dt_ c
     have a6:=du_ c l0.length
     obtain⟨U,b7,g0,g1,g2,g3⟩:=at_T72 D.out c (ot_ a5) (ot_ a6)
     obtain rfl:o=U:=(by injection b7)
     replace g0:=qx_ HB g0
     replace g1:=qx_ HB g1
     replace g2:=qx_ HB g2
     replace g3:=qx_ HB g3
     go_wp2
     repeat(go_quiet (fail);try go_wp2)
     go_roundg f9
     case measure=>have:=HK1.out;omega
     case rel=>exact⟨(m),(wrap64 (c + 1)),qe_,H',⟨by have:=HK1.out;omega⟩,⟨ra_ n⟩,⟨qk_ g⟩,⟨qB_⟩⟩
    refine jg_ H ?_;clear H;intro e6 H
    have V:=am_ e6
    clear e6
    generalize b8:(m++[(⟨(rd_T72 l0 c).f0,(rd_T72 l0 c).f1,(rd_T72 l0 c).f2,(rd_T72 l0 c).f3⟩:S72)])=p9 at H;replace H:=bh_ H;have X:=am_ b8.symm;clear b8;have H' :=am_ H;clear H
    have s:=dt_ c
    have u:=du_ c l0.length
    obtain⟨o,v,a8,a9,b0,b1⟩:=at_T72 D.out c (ot_ s) (ot_ u)
    cases v
    replace a8:=qx_ HB a8
    replace a9:=qx_ HB a9
    replace b0:=qx_ HB b0
    replace b1:=qx_ HB b1
    obtain⟨q0,q1,q2,q3,q4,q5,j0,j1⟩:=bc4_ g
    have F:=dt_ c
    have G:=du_ c l0.length
    obtain⟨x,J,d0,d1,d2,d3⟩:=at_T72 D.out c (ot_ F) (ot_ G)
    obtain rfl:o=x:=(by injection J)
    replace d0:=qx_ HB d0
    replace d1:=qx_ HB d1
    replace d2:=qx_ HB d2
    replace d3:=qx_ HB d3
    have a5:=dt_ c
    have a6:=du_ c l0.length
    obtain⟨U,b7,g0,g1,g2,g3⟩:=at_T72 D.out c (ot_ a5) (ot_ a6)
    obtain rfl:o=U:=(by injection b7)
    replace g0:=qx_ HB g0
    replace g1:=qx_ HB g1
    replace g2:=qx_ HB g2
    replace g3:=qx_ HB g3
    have d8:=dt_ c
    have d9:=du_ c l0.length
    obtain⟨e7,h0,j9,k0,k1,k2⟩:=at_T72 D.out c (ot_ d8) (ot_ d9)
    obtain rfl:o=e7:=(by injection h0)
    replace j9:=qx_ HB j9
    replace k0:=qx_ HB k0
    replace k1:=qx_ HB k1
    replace k2:=qx_ HB k2
    go_wp2_with (first|((with_reducible refine gate_builtin (b:= .append) (xs:= #[.tmp 43,.tmp 48]) rfl ?_);at_builtin;refine Kd.R_append k72 (w0:=w) w.heap.size rfl (.tmp 43) (.tmp 48) 27 72 (.agg #[(.int .i64 0),(.int .i64 0),(.int .i64 0),(.bool false)]) 32 rfl Try.underlying27 info72 rfl (by decide) (by omega) u5 m (⟨(rd_T72 l0 c).f0,(rd_T72 l0 c).f1,(rd_T72 l0 c).f2,(rd_T72 l0 c).f3⟩:S72) [.int .i64 ((rd_T72 l0 c).f0),.int .i64 ((rd_T72 l0 c).f1),.int .i64 ((rd_T72 l0 c).f2),.bool ((rd_T72 l0 c).f3)] (fun k_=>k_≠E) (fun _=>False) rfl rfl ?aP (fun _ hk=>hk.elim) ?aF ?aO ?aB ?aS ?aL ?_;(case aP=>exact k72_mkM _ _ _ (⟨(rd_T72 l0 c).f0,(rd_T72 l0 c).f1,(rd_T72 l0 c).f2,(rd_T72 l0 c).f3⟩:S72));(case aB=>exact qB_);(case aF=>exact(fun k_ hk=>Kd.freshB (qk_ g) k_ hk));(case aO=>exact(qR_ n));(case aS=>exact(below_size qB_));(case aL=>have:=V.out;omega);intro l8 h1 ho hb hg hat;rw[←X.out]at ho;have k3:=am_ (ho);replace g:=am_ (blk_grown (qk_ g) hg (Kd.R_away n.out (fun _ hk=>hk)));replace HB:=am_ (hb);clear n ho hb hg hat))
    repeat(go_quiet (first|((with_reducible refine gate_builtin (b:= .append) (xs:= #[.tmp 43,.tmp 48]) rfl ?_);at_builtin;refine Kd.R_append k72 (w0:=w) w.heap.size rfl (.tmp 43) (.tmp 48) 27 72 (.agg #[(.int .i64 0),(.int .i64 0),(.int .i64 0),(.bool false)]) 32 rfl Try.underlying27 info72 rfl (by decide) (by omega) u5 m (⟨(rd_T72 l0 c).f0,(rd_T72 l0 c).f1,(rd_T72 l0 c).f2,(rd_T72 l0 c).f3⟩:S72) [.int .i64 ((rd_T72 l0 c).f0),.int .i64 ((rd_T72 l0 c).f1),.int .i64 ((rd_T72 l0 c).f2),.bool ((rd_T72 l0 c).f3)] (fun k_=>k_≠E) (fun _=>False) rfl rfl ?aP (fun _ hk=>hk.elim) ?aF ?aO ?aB ?aS ?aL ?_;(case aP=>exact k72_mkM _ _ _ (⟨(rd_T72 l0 c).f0,(rd_T72 l0 c).f1,(rd_T72 l0 c).f2,(rd_T72 l0 c).f3⟩:S72));(case aB=>exact qB_);(case aF=>exact(fun k_ hk=>Kd.freshB (qk_ g) k_ hk));(case aO=>exact(qR_ n));(case aS=>exact(below_size qB_));(case aL=>have:=V.out;omega);intro l8 h1 ho hb hg hat;rw[←X.out]at ho;have k3:=am_ (ho);replace g:=am_ (blk_grown (qk_ g) hg (Kd.R_away n.out (fun _ hk=>hk)));replace HB:=am_ (hb);clear n ho hb hg hat));try go_wp2_with (first|((with_reducible refine gate_builtin (b:= .append) (xs:= #[.tmp 43,.tmp 48]) rfl ?_);at_builtin;refine Kd.R_append k72 (w0:=w) w.heap.size rfl (.tmp 43) (.tmp 48) 27 72 (.agg #[(.int .i64 0),(.int .i64 0),(.int .i64 0),(.bool false)]) 32 rfl Try.underlying27 info72 rfl (by decide) (by omega) u5 m (⟨(rd_T72 l0 c).f0,(rd_T72 l0 c).f1,(rd_T72 l0 c).f2,(rd_T72 l0 c).f3⟩:S72) [.int .i64 ((rd_T72 l0 c).f0),.int .i64 ((rd_T72 l0 c).f1),.int .i64 ((rd_T72 l0 c).f2),.bool ((rd_T72 l0 c).f3)] (fun k_=>k_≠E) (fun _=>False) rfl rfl ?aP (fun _ hk=>hk.elim) ?aF ?aO ?aB ?aS ?aL ?_;(case aP=>exact k72_mkM _ _ _ (⟨(rd_T72 l0 c).f0,(rd_T72 l0 c).f1,(rd_T72 l0 c).f2,(rd_T72 l0 c).f3⟩:S72));(case aB=>exact qB_);(case aF=>exact(fun k_ hk=>Kd.freshB (qk_ g) k_ hk));(case aO=>exact(qR_ n));(case aS=>exact(below_size qB_));(case aL=>have:=V.out;omega);intro l8 h1 ho hb hg hat;rw[←X.out]at ho;have k3:=am_ (ho);replace g:=am_ (blk_grown (qk_ g) hg (Kd.R_away n.out (fun _ hk=>hk)));replace HB:=am_ (hb);clear n ho hb hg hat)))
    go_roundg f9
    case measure=>have:=HK1.out;omega
    case rel=>exact⟨(p9),(wrap64 (c + 1)),qe_,H',⟨by have:=HK1.out;omega⟩,⟨ra_ k3⟩,⟨qk_ g⟩,⟨qB_⟩⟩
   refine jg_ H ?_;clear H;intro e8 H
   have Y:=am_ e8
   clear e8
   generalize b9:(m++[(⟨d,i,j,l⟩:S72)])=q6 at H;replace H:=bh_ H;have Z:=am_ b9.symm;clear b9;have H' :=am_ H;clear H
   obtain⟨j2,j3,j4,q7,q8,q9,r0,r1⟩:=bc4_ g
   go_wp2_with (first|((with_reducible refine gate_builtin (b:= .append) (xs:= #[.tmp 50,.tmp 52]) rfl ?_);at_builtin;refine Kd.R_append k72 (w0:=w) w.heap.size rfl (.tmp 50) (.tmp 52) 27 72 (.agg #[(.int .i64 0),(.int .i64 0),(.int .i64 0),(.bool false)]) 32 rfl Try.underlying27 info72 rfl (by decide) (by omega) u5 m (⟨d,i,j,l⟩:S72) [.int .i64 d,.int .i64 i,.int .i64 j,.bool l] (fun k_=>k_≠E) (fun _=>False) rfl rfl ?aP (fun _ hk=>hk.elim) ?aF ?aO ?aB ?aS ?aL ?_;(case aP=>exact k72_mkM _ _ _ (⟨d,i,j,l⟩:S72));(case aB=>exact qB_);(case aF=>exact(fun k_ hk=>Kd.freshB (qk_ g) k_ hk));(case aO=>exact(qR_ n));(case aS=>exact(below_size qB_));(case aL=>have:=Y.out;omega);intro l2 h2 ho hb hg hat;rw[←Z.out]at ho;have k4:=am_ (ho);replace g:=am_ (blk_grown (qk_ g) hg (Kd.R_away n.out (fun _ hk=>hk)));replace HB:=am_ (hb);clear n ho hb hg hat))
   repeat(go_quiet (first|((with_reducible refine gate_builtin (b:= .append) (xs:= #[.tmp 50,.tmp 52]) rfl ?_);at_builtin;refine Kd.R_append k72 (w0:=w) w.heap.size rfl (.tmp 50) (.tmp 52) 27 72 (.agg #[(.int .i64 0),(.int .i64 0),(.int .i64 0),(.bool false)]) 32 rfl Try.underlying27 info72 rfl (by decide) (by omega) u5 m (⟨d,i,j,l⟩:S72) [.int .i64 d,.int .i64 i,.int .i64 j,.bool l] (fun k_=>k_≠E) (fun _=>False) rfl rfl ?aP (fun _ hk=>hk.elim) ?aF ?aO ?aB ?aS ?aL ?_;(case aP=>exact k72_mkM _ _ _ (⟨d,i,j,l⟩:S72));(case aB=>exact qB_);(case aF=>exact(fun k_ hk=>Kd.freshB (qk_ g) k_ hk));(case aO=>exact(qR_ n));(case aS=>exact(below_size qB_));(case aL=>have:=Y.out;omega);intro l2 h2 ho hb hg hat;rw[←Z.out]at ho;have k4:=am_ (ho);replace g:=am_ (blk_grown (qk_ g) hg (Kd.R_away n.out (fun _ hk=>hk)));replace HB:=am_ (hb);clear n ho hb hg hat));try go_wp2_with (first|((with_reducible refine gate_builtin (b:= .append) (xs:= #[.tmp 50,.tmp 52]) rfl ?_);at_builtin;refine Kd.R_append k72 (w0:=w) w.heap.size rfl (.tmp 50) (.tmp 52) 27 72 (.agg #[(.int .i64 0),(.int .i64 0),(.int .i64 0),(.bool false)]) 32 rfl Try.underlying27 info72 rfl (by decide) (by omega) u5 m (⟨d,i,j,l⟩:S72) [.int .i64 d,.int .i64 i,.int .i64 j,.bool l] (fun k_=>k_≠E) (fun _=>False) rfl rfl ?aP (fun _ hk=>hk.elim) ?aF ?aO ?aB ?aS ?aL ?_;(case aP=>exact k72_mkM _ _ _ (⟨d,i,j,l⟩:S72));(case aB=>exact qB_);(case aF=>exact(fun k_ hk=>Kd.freshB (qk_ g) k_ hk));(case aO=>exact(qR_ n));(case aS=>exact(below_size qB_));(case aL=>have:=Y.out;omega);intro l2 h2 ho hb hg hat;rw[←Z.out]at ho;have k4:=am_ (ho);replace g:=am_ (blk_grown (qk_ g) hg (Kd.R_away n.out (fun _ hk=>hk)));replace HB:=am_ (hb);clear n ho hb hg hat)))
   go_loopg [5,7] f9 (fun kq v5 v7 w' =>∃ (q:List (S72)) (a:Int),v7= .int .i64 a∧Aside0 (spec_l08Put.l1 kq l0 q a d i j l=some r)∧Aside0 (kq≤f9)∧Aside0 (Kd.R k72 72 w' w.heap.size (fun k_=>k_≠E) v5 q)∧Aside0 (w'.heap[E]? =some (.cells #[.int .i64 d,.int .i64 i,.int .i64 j,.bool l] 72 (0,0)))∧Aside0 (Below w.heap.size w w'))
   case atStart=>exact⟨(q6),(0),qe_,H',⟨Nat.le_refl _⟩,⟨ra_ k4⟩,⟨qk_ g⟩,⟨qB_⟩⟩
   case round=>
    clear H' g5 j2 j3 j4 q7 q8 q9 r0 r1
    obtain⟨q,a,rfl,HA,HK2,n,g,HB⟩:=hrel
    cases gk with
    |zero=>exact absurd HA.out (by simp [spec_l08Put.l1])
    |succ i7=>
     have H:=HA.out;clear HA
     simp only[spec_l08Put.l1]at H
     refine ib_ H ?_ ?_<;>clear H<;>intro k5 H
     ·obtain rfl:=oi_ H
      go_wp2
      repeat(go_quiet (fail);try go_wp2)
      go_ret
      exact⟨_,qr_,by(with_reducible repeat(first|apply Kd.R_alloc|apply Kd.R_drewN|apply Kd.R_drew));exact Kd.R_mono n.out (fun _ hk=>trivial),qB_⟩
     refine ig_ H ?_;clear H;intro k6 H
     refine jc_ H ?_ ?_<;>clear H<;>intro d4 H
     ·have e9:decide (d<((rd_T72 l0 a).f0))=true:=decide_eq_true d4
      clear d4
      refine jg_ H ?_;clear H;intro h3 H
      have a0:=am_ h3
      clear h3
      generalize c0:(q++[(⟨(rd_T72 l0 a).f0,(rd_T72 l0 a).f1,(rd_T72 l0 a).f2,(rd_T72 l0 a).f3⟩:S72)])=l3 at H;replace H:=bh_ H;have a1:=am_ c0.symm;clear c0;have H' :=am_ H;clear H
      have y:=dt_ a
      have z:=du_ a l0.length
      obtain⟨p,A,c1,c2,c3,c4⟩:=at_T72 D.out a (ot_ y) (ot_ z)
      cases A
      replace c1:=qx_ HB c1
      replace c2:=qx_ HB c2
      replace c3:=qx_ HB c3
      replace c4:=qx_ HB c4
      obtain⟨s3,s4,s5,s6,s7,s8,s9,t0⟩:=bc4_ g
      have h4:=dt_ a
      have h5:=du_ a l0.length
      obtain⟨f4,h6,l9,m0,m1,m2⟩:=at_T72 D.out a (ot_ h4) (ot_ h5)
      obtain rfl:p=f4:=(by injection h6)
      replace l9:=qx_ HB l9
      replace m0:=qx_ HB m0
      replace m1:=qx_ HB m1
      replace m2:=qx_ HB m2
      go_wp2_with (first|((with_reducible refine gate_builtin (b:= .append) (xs:= #[.tmp 88,.tmp 93]) rfl ?_);at_builtin;refine Kd.R_append k72 (w0:=w) w.heap.size rfl (.tmp 88) (.tmp 93) 27 72 (.agg #[(.int .i64 0),(.int .i64 0),(.int .i64 0),(.bool false)]) 32 rfl Try.underlying27 info72 rfl (by decide) (by omega) u5 q (⟨(rd_T72 l0 a).f0,(rd_T72 l0 a).f1,(rd_T72 l0 a).f2,(rd_T72 l0 a).f3⟩:S72) [.int .i64 ((rd_T72 l0 a).f0),.int .i64 ((rd_T72 l0 a).f1),.int .i64 ((rd_T72 l0 a).f2),.bool ((rd_T72 l0 a).f3)] (fun k_=>k_≠E) (fun _=>False) rfl rfl ?aP (fun _ hk=>hk.elim) ?aF ?aO ?aB ?aS ?aL ?_;(case aP=>exact k72_mkM _ _ _ (⟨(rd_T72 l0 a).f0,(rd_T72 l0 a).f1,(rd_T72 l0 a).f2,(rd_T72 l0 a).f3⟩:S72));(case aB=>exact qB_);(case aF=>exact(fun k_ hk=>Kd.freshB (qk_ g) k_ hk));(case aO=>exact(qR_ n));(case aS=>exact(below_size qB_));(case aL=>have:=a0.out;omega);intro m3 h7 ho hb hg hat;rw[←a1.out]at ho;have k7:=am_ (ho);replace g:=am_ (blk_grown (qk_ g) hg (Kd.R_away n.out (fun _ hk=>hk)));replace HB:=am_ (hb);clear n ho hb hg hat))
      repeat(go_quiet (first|((with_reducible refine gate_builtin (b:= .append) (xs:= #[.tmp 88,.tmp 93]) rfl ?_);at_builtin;refine Kd.R_append k72 (w0:=w) w.heap.size rfl (.tmp 88) (.tmp 93) 27 72 (.agg #[(.int .i64 0),(.int .i64 0),(.int .i64 0),(.bool false)]) 32 rfl Try.underlying27 info72 rfl (by decide) (by omega) u5 q (⟨(rd_T72 l0 a).f0,(rd_T72 l0 a).f1,(rd_T72 l0 a).f2,(rd_T72 l0 a).f3⟩:S72) [.int .i64 ((rd_T72 l0 a).f0),.int .i64 ((rd_T72 l0 a).f1),.int .i64 ((rd_T72 l0 a).f2),.bool ((rd_T72 l0 a).f3)] (fun k_=>k_≠E) (fun _=>False) rfl rfl ?aP (fun _ hk=>hk.elim) ?aF ?aO ?aB ?aS ?aL ?_;(case aP=>exact k72_mkM _ _ _ (⟨(rd_T72 l0 a).f0,(rd_T72 l0 a).f1,(rd_T72 l0 a).f2,(rd_T72 l0 a).f3⟩:S72));(case aB=>exact qB_);(case aF=>exact(fun k_ hk=>Kd.freshB (qk_ g) k_ hk));(case aO=>exact(qR_ n));(case aS=>exact(below_size qB_));(case aL=>have:=a0.out;omega);intro m3 h7 ho hb hg hat;rw[←a1.out]at ho;have k7:=am_ (ho);replace g:=am_ (blk_grown (qk_ g) hg (Kd.R_away n.out (fun _ hk=>hk)));replace HB:=am_ (hb);clear n ho hb hg hat));try go_wp2_with (first|((with_reducible refine gate_builtin (b:= .append) (xs:= #[.tmp 88,.tmp 93]) rfl ?_);at_builtin;refine Kd.R_append k72 (w0:=w) w.heap.size rfl (.tmp 88) (.tmp 93) 27 72 (.agg #[(.int .i64 0),(.int .i64 0),(.int .i64 0),(.bool false)]) 32 rfl Try.underlying27 info72 rfl (by decide) (by omega) u5 q (⟨(rd_T72 l0 a).f0,(rd_T72 l0 a).f1,(rd_T72 l0 a).f2,(rd_T72 l0 a).f3⟩:S72) [.int .i64 ((rd_T72 l0 a).f0),.int .i64 ((rd_T72 l0 a).f1),.int .i64 ((rd_T72 l0 a).f2),.bool ((rd_T72 l0 a).f3)] (fun k_=>k_≠E) (fun _=>False) rfl rfl ?aP (fun _ hk=>hk.elim) ?aF ?aO ?aB ?aS ?aL ?_;(case aP=>exact k72_mkM _ _ _ (⟨(rd_T72 l0 a).f0,(rd_T72 l0 a).f1,(rd_T72 l0 a).f2,(rd_T72 l0 a).f3⟩:S72));(case aB=>exact qB_);(case aF=>exact(fun k_ hk=>Kd.freshB (qk_ g) k_ hk));(case aO=>exact(qR_ n));(case aS=>exact(below_size qB_));(case aL=>have:=a0.out;omega);intro m3 h7 ho hb hg hat;rw[←a1.out]at ho;have k7:=am_ (ho);replace g:=am_ (blk_grown (qk_ g) hg (Kd.R_away n.out (fun _ hk=>hk)));replace HB:=am_ (hb);clear n ho hb hg hat)))
      go_roundg i7
      case measure=>have:=HK1.out;have:=HK2.out;omega
      case rel=>exact⟨(l3),(wrap64 (a + 1)),qe_,H',⟨by have:=HK1.out;have:=HK2.out;omega⟩,⟨ra_ k7⟩,⟨qk_ g⟩,⟨qB_⟩⟩
     have e9:decide (d<((rd_T72 l0 a).f0))=false:=decide_eq_false d4
     clear d4
     refine jb_ H ?_ ?_<;>clear H<;>intro c5 H
     ·have f5:(((rd_T72 l0 a).f0)==d)=false:=beq_eq_false_iff_ne.mpr c5
      have f6:(((rd_T72 l0 a).f0) != d)=true:=bne_iff_ne.mpr c5
      have H' :=am_ H;clear H
      have y:=dt_ a
      have z:=du_ a l0.length
      obtain⟨p,A,c1,c2,c3,c4⟩:=at_T72 D.out a (ot_ y) (ot_ z)
      cases A
      replace c1:=qx_ HB c1
      replace c2:=qx_ HB c2
      replace c3:=qx_ HB c3
      replace c4:=qx_ HB c4
      obtain⟨t1,t2,t3,t4,t5,t6,t7,t8⟩:=bc4_ g
      have L:=dt_ a
      have M:=du_ a l0.length
      obtain⟨B,O,e0,e1,e2,e3⟩:=at_T72 D.out a (ot_ L) (ot_ M)
      obtain rfl:p=B:=(by injection O)
      replace e0:=qx_ HB e0
      replace e1:=qx_ HB e1
      replace e2:=qx_ HB e2
      replace e3:=qx_ HB e3
      go_wp2
      repeat(go_quiet (fail);try go_wp2)
      go_roundg i7
      case measure=>have:=HK1.out;have:=HK2.out;omega
      case rel=>exact⟨(q),(wrap64 (a + 1)),qe_,H',⟨by have:=HK1.out;have:=HK2.out;omega⟩,⟨ra_ n⟩,⟨qk_ g⟩,⟨qB_⟩⟩
     have f5:(((rd_T72 l0 a).f0)==d)=true:=beq_iff_eq.mpr c5
     have f6:(((rd_T72 l0 a).f0) != d)=false:=bne_eq_false_iff_eq.mpr c5
     clear c5
     refine jb_ H ?_ ?_<;>clear H<;>intro d5 H
     ·have f7:decide (i<((rd_T72 l0 a).f1))=false:=decide_eq_false d5
      clear d5;have H' :=am_ H;clear H
      have y:=dt_ a
      have z:=du_ a l0.length
      obtain⟨p,A,c1,c2,c3,c4⟩:=at_T72 D.out a (ot_ y) (ot_ z)
      cases A
      replace c1:=qx_ HB c1
      replace c2:=qx_ HB c2
      replace c3:=qx_ HB c3
      replace c4:=qx_ HB c4
      obtain⟨t9,w1,w2,w3,w4,w5,w6,w7⟩:=bc4_ g
      have L:=dt_ a
      have M:=du_ a l0.length
      obtain⟨B,O,e0,e1,e2,e3⟩:=at_T72 D.out a (ot_ L) (ot_ M)
      obtain rfl:p=B:=(by injection O)
      replace e0:=qx_ HB e0
      replace e1:=qx_ HB e1
      replace e2:=qx_ HB e2
      replace e3:=qx_ HB e3
      have c6:=dt_ a
      have c7:=du_ a l0.length
      obtain⟨a2,c8,h8,h9,i0,i1⟩:=at_T72 D.out a (ot_ c6) (ot_ c7)
      obtain rfl:p=a2:=(by injection c8)
      replace h8:=qx_ HB h8
      replace h9:=qx_ HB h9
      replace i0:=qx_ HB i0
      replace i1:=qx_ HB i1
      go_wp2
      repeat(go_quiet (fail);try go_wp2)
      go_roundg i7
      case measure=>have:=HK1.out;have:=HK2.out;omega
      case rel=>exact⟨(q),(wrap64 (a + 1)),qe_,H',⟨by have:=HK1.out;have:=HK2.out;omega⟩,⟨ra_ n⟩,⟨qk_ g⟩,⟨qB_⟩⟩
     have f7:decide (i<((rd_T72 l0 a).f1))=true:=decide_eq_true d5
     clear d5
     refine jg_ H ?_;clear H;intro i2 H
     have a3:=am_ i2
     clear i2
     generalize c9:(q++[(⟨(rd_T72 l0 a).f0,(rd_T72 l0 a).f1,(rd_T72 l0 a).f2,(rd_T72 l0 a).f3⟩:S72)])=r3 at H;replace H:=bh_ H;have a4:=am_ c9.symm;clear c9;have H' :=am_ H;clear H
     have y:=dt_ a
     have z:=du_ a l0.length
     obtain⟨p,A,c1,c2,c3,c4⟩:=at_T72 D.out a (ot_ y) (ot_ z)
     cases A
     replace c1:=qx_ HB c1
     replace c2:=qx_ HB c2
     replace c3:=qx_ HB c3
     replace c4:=qx_ HB c4
     obtain⟨w8,w9,x0,x1,x2,x3,x4,x5⟩:=bc4_ g
     have L:=dt_ a
     have M:=du_ a l0.length
     obtain⟨B,O,e0,e1,e2,e3⟩:=at_T72 D.out a (ot_ L) (ot_ M)
     obtain rfl:p=B:=(by injection O)
     replace e0:=qx_ HB e0
     replace e1:=qx_ HB e1
     replace e2:=qx_ HB e2
     replace e3:=qx_ HB e3
     have c6:=dt_ a
     have c7:=du_ a l0.length
     obtain⟨a2,c8,h8,h9,i0,i1⟩:=at_T72 D.out a (ot_ c6) (ot_ c7)
     obtain rfl:p=a2:=(by injection c8)
     replace h8:=qx_ HB h8
     replace h9:=qx_ HB h9
     replace i0:=qx_ HB i0
     replace i1:=qx_ HB i1
     have i3:=dt_ a
     have i4:=du_ a l0.length
     obtain⟨f8,i5,m4,m5,m6,m7⟩:=at_T72 D.out a (ot_ i3) (ot_ i4)
     obtain rfl:p=f8:=(by injection i5)
     replace m4:=qx_ HB m4
     replace m5:=qx_ HB m5
     replace m6:=qx_ HB m6
     replace m7:=qx_ HB m7
     go_wp2_with (first|((with_reducible refine gate_builtin (b:= .append) (xs:= #[.tmp 88,.tmp 93]) rfl ?_);at_builtin;refine Kd.R_append k72 (w0:=w) w.heap.size rfl (.tmp 88) (.tmp 93) 27 72 (.agg #[(.int .i64 0),(.int .i64 0),(.int .i64 0),(.bool false)]) 32 rfl Try.underlying27 info72 rfl (by decide) (by omega) u5 q (⟨(rd_T72 l0 a).f0,(rd_T72 l0 a).f1,(rd_T72 l0 a).f2,(rd_T72 l0 a).f3⟩:S72) [.int .i64 ((rd_T72 l0 a).f0),.int .i64 ((rd_T72 l0 a).f1),.int .i64 ((rd_T72 l0 a).f2),.bool ((rd_T72 l0 a).f3)] (fun k_=>k_≠E) (fun _=>False) rfl rfl ?aP (fun _ hk=>hk.elim) ?aF ?aO ?aB ?aS ?aL ?_;(case aP=>exact k72_mkM _ _ _ (⟨(rd_T72 l0 a).f0,(rd_T72 l0 a).f1,(rd_T72 l0 a).f2,(rd_T72 l0 a).f3⟩:S72));(case aB=>exact qB_);(case aF=>exact(fun k_ hk=>Kd.freshB (qk_ g) k_ hk));(case aO=>exact(qR_ n));(case aS=>exact(below_size qB_));(case aL=>have:=a3.out;omega);intro m8 i6 ho hb hg hat;rw[←a4.out]at ho;have k8:=am_ (ho);replace g:=am_ (blk_grown (qk_ g) hg (Kd.R_away n.out (fun _ hk=>hk)));replace HB:=am_ (hb);clear n ho hb hg hat))
     repeat(go_quiet (first|((with_reducible refine gate_builtin (b:= .append) (xs:= #[.tmp 88,.tmp 93]) rfl ?_);at_builtin;refine Kd.R_append k72 (w0:=w) w.heap.size rfl (.tmp 88) (.tmp 93) 27 72 (.agg #[(.int .i64 0),(.int .i64 0),(.int .i64 0),(.bool false)]) 32 rfl Try.underlying27 info72 rfl (by decide) (by omega) u5 q (⟨(rd_T72 l0 a).f0,(rd_T72 l0 a).f1,(rd_T72 l0 a).f2,(rd_T72 l0 a).f3⟩:S72) [.int .i64 ((rd_T72 l0 a).f0),.int .i64 ((rd_T72 l0 a).f1),.int .i64 ((rd_T72 l0 a).f2),.bool ((rd_T72 l0 a).f3)] (fun k_=>k_≠E) (fun _=>False) rfl rfl ?aP (fun _ hk=>hk.elim) ?aF ?aO ?aB ?aS ?aL ?_;(case aP=>exact k72_mkM _ _ _ (⟨(rd_T72 l0 a).f0,(rd_T72 l0 a).f1,(rd_T72 l0 a).f2,(rd_T72 l0 a).f3⟩:S72));(case aB=>exact qB_);(case aF=>exact(fun k_ hk=>Kd.freshB (qk_ g) k_ hk));(case aO=>exact(qR_ n));(case aS=>exact(below_size qB_));(case aL=>have:=a3.out;omega);intro m8 i6 ho hb hg hat;rw[←a4.out]at ho;have k8:=am_ (ho);replace g:=am_ (blk_grown (qk_ g) hg (Kd.R_away n.out (fun _ hk=>hk)));replace HB:=am_ (hb);clear n ho hb hg hat));try go_wp2_with (first|((with_reducible refine gate_builtin (b:= .append) (xs:= #[.tmp 88,.tmp 93]) rfl ?_);at_builtin;refine Kd.R_append k72 (w0:=w) w.heap.size rfl (.tmp 88) (.tmp 93) 27 72 (.agg #[(.int .i64 0),(.int .i64 0),(.int .i64 0),(.bool false)]) 32 rfl Try.underlying27 info72 rfl (by decide) (by omega) u5 q (⟨(rd_T72 l0 a).f0,(rd_T72 l0 a).f1,(rd_T72 l0 a).f2,(rd_T72 l0 a).f3⟩:S72) [.int .i64 ((rd_T72 l0 a).f0),.int .i64 ((rd_T72 l0 a).f1),.int .i64 ((rd_T72 l0 a).f2),.bool ((rd_T72 l0 a).f3)] (fun k_=>k_≠E) (fun _=>False) rfl rfl ?aP (fun _ hk=>hk.elim) ?aF ?aO ?aB ?aS ?aL ?_;(case aP=>exact k72_mkM _ _ _ (⟨(rd_T72 l0 a).f0,(rd_T72 l0 a).f1,(rd_T72 l0 a).f2,(rd_T72 l0 a).f3⟩:S72));(case aB=>exact qB_);(case aF=>exact(fun k_ hk=>Kd.freshB (qk_ g) k_ hk));(case aO=>exact(qR_ n));(case aS=>exact(below_size qB_));(case aL=>have:=a3.out;omega);intro m8 i6 ho hb hg hat;rw[←a4.out]at ho;have k8:=am_ (ho);replace g:=am_ (blk_grown (qk_ g) hg (Kd.R_away n.out (fun _ hk=>hk)));replace HB:=am_ (hb);clear n ho hb hg hat)))
     go_roundg i7
     case measure=>have:=HK1.out;have:=HK2.out;omega
     case rel=>exact⟨(r3),(wrap64 (a + 1)),qe_,H',⟨by have:=HK1.out;have:=HK2.out;omega⟩,⟨ra_ k8⟩,⟨qk_ g⟩,⟨qB_⟩⟩
end Go.Proofs.Ytbkklafkoegdpaa.QFnTakes

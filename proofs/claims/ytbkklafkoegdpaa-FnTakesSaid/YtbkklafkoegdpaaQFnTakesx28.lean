import Derived.Test.YtbkklafkoegdpaaQFnTakesx19
import Derived.Test.YtbkklafkoegdpaaQFnTakesx26
import Derived.Test.YtbkklafkoegdpaaQFnTakesx27
namespace Go.Proofs.Ytbkklafkoegdpaa.QFnTakes
open Go.RowKit Go.Proofs.YtbkklafkoegdpaaW.PrintWords Go.Proofs.YtbkklafkoegdpaaW.PrintLast Go.Proofs.YtbkklafkoegdpaaW.PrintMore
set_option maxHeartbeats 8000000
set_option maxRecDepth 100000
set_option linter.unusedVariables false
set_option linter.unusedSimpArgs false
mutual
def spec_l08Web.l0:Nat→Int→Int→Int→List Int→Int→Int→Int→List (S72)→Option (Int × (List (S72)) × Int × Int)
  |0,_,_,_,_,_,_,_,_=>none
  |k + 1,x1,x2,x9,x1000,x1001,x1002,x637000,x637001=>if x9<x2 then (if (x637001.length:Int)>4 then ((spec_l01Once.f x1000 x1001 x1002 3).bind fun bt637=>(spec_l08Web.j1 k x1 x2 x9 bt637.1 x1000 bt637.2.1 bt637.2.2 x637000 x637001)) else (spec_l08Web.j1 k x1 x2 x9 false x1000 x1001 x1002 x637000 x637001)) else (some (x637000,x637001,x1001,x1002))
def spec_l08Web.j1:Nat→Int→Int→Int→Bool→List Int→Int→Int→Int→List (S72)→Option (Int × (List (S72)) × Int × Int)
  |0,_,_,_,_,_,_,_,_,_=>none
  |k + 1,x1,x2,x9,x30,x1000,x1001,x1002,x637000,x637001=>if x30=true then ((spec_l01Below.f x1000 x1001 x1002 (x637001.length:Int)).bind fun bt640=>(if 0≤bt640.1 then (if bt640.1<(x637001.length:Int) then ((spec_WebTake.f k x637000 x637001 ((rd_T72 x637001 bt640.1).f0) ((rd_T72 x637001 bt640.1).f1)).bind fun bt645=>(spec_l08Web.l0 k x1 x2 (wrap64 (x9 + 1)) x1000 bt640.2.1 bt640.2.2 bt645.1 bt645.2.1)) else (none)) else (none))) else ((spec_l05Edge.f x1000 x1001 x1002 x1).bind fun bt653=>((spec_WebAdd.f k x637000 x637001 bt653.1 bt653.2.1).bind fun bt657=>(if bt657.2.2=true then (spec_l08Web.l0 k x1 x2 (wrap64 (x9 + 1)) x1000 bt653.2.2.1 bt653.2.2.2 bt657.1 bt657.2.1) else (spec_l08Web.l0 k x1 x2 (wrap64 (x9 + 1)) x1000 bt653.2.2.1 bt653.2.2.2 x637000 x637001))))
end
def spec_l08Web.f (k:Nat) (s0_0:List Int) (s0_1:Int) (s0_2:Int) (a1:Int) (a2:Int):Option (Int × (List (S72)) × Int × Int):=(spec_WebNew.f a1).bind fun bt631=>(spec_l08Web.l0 k a1 a2 0 s0_0 s0_1 s0_2 bt631.1 bt631.2.1)
def spec_l08Web.T6:Bool × List (List Nat × List Nat):=(true,[([],[]),([0],[0]),([],[]),([],[]),([3],[3]),([4],[4]),([2,5],[2,5]),([1,6],[1,6]),([7],[7]),([],[]),([9,8,6,0,1,2,3,4,5,6,7,8,9],[8,9])])
def spec_l08Web.B6:List Nat:=[0,1,0,0,8,24,60,127,255,0,1023]
theorem spec_l08Web.tab6:rtab .any (opsOf Try.f130 6)=spec_l08Web.T6:=by kernel_rfl
theorem spec_l08Web.bits6:waitsOk spec_l08Web.T6.2 spec_l08Web.B6=true:=by kernel_rfl
def spec_l08Web.T8:Bool × List (List Nat × List Nat):=(true,[([],[]),([],[]),([],[]),([1,2],[1,2]),([0,3,3],[0,3]),([4],[4]),([5],[5]),([5],[5]),([],[]),([8,6,4,0,1,2,3,4,5,6,8],[6,8]),([7,9,0,1,2,3,4,5,6,7,8,9],[7])])
def spec_l08Web.B8:List Nat:=[0,0,0,6,15,31,63,63,0,383,1023]
theorem spec_l08Web.tab8:rtab .any (opsOf Try.f130 8)=spec_l08Web.T8:=by kernel_rfl
theorem spec_l08Web.bits8:waitsOk spec_l08Web.T8.2 spec_l08Web.B8=true:=by kernel_rfl
theorem spec_l08Web.calls (k:Nat) (g:Nat) (s0_0:List Int) (s0_1:Int) (s0_2:Int) (d6:Int) (h1:Int) (h2:Int) (h3:List (S72)) (h4:Int) (h5:Int) (s w:World) (hI:IsS130 s w g s0_0 s0_1 s0_2) (hB:Below s.heap.size s w) (h:spec_l08Web.f k s0_0 s0_1 s0_2 d6 h1=some (h2,h3,h4,h5)):
  Calls Try.prog 130 #[.pointer (some ⟨g,0,none⟩),.int .i64 d6,.int .i64 h1] w fun e w' =>∃ h6:Value,e= .returned (.agg #[.int .i64 h2,h6])∧Kd.R k72 72 w' w.heap.size (fun _=>True) h6 h3∧IsS130 s w' g s0_0 h4 h5∧Below s.heap.size s w' ∧KeepBut w w' g none:=by
 have hu29:=Try.underlying29;have hu72:=Try.underlying72;have hu43:=Try.underlying43
 have HI0:=am_ hI
 have HK:=am_ (KeepBut.refl w g none)
 have HL:=am_ hB.size
 clear hI
 have HW0:=am_ hB.size
 have HB:=am_ hB
 clear hB
 have H:((spec_WebNew.f d6).bind fun j0=>(spec_l08Web.l0 k d6 h1 0 s0_0 s0_1 s0_2 j0.1 j0.2.1))=some (h2,h3,h4,h5):=h
 clear h
 obtain⟨⟨i9,i7,o5⟩,o6,H⟩:=bs_ H;dsimp only at H;have H' :=am_ H;clear H
 go_enter Try.func130,Try.ntmps130
 go_wp2_with (first|((with_reducible refine gd_ 6 ?_);refine bx_ 6 (cs:= #[.int .i64 0,.slice none 0 0]) (t:=29) ?_;intro J hg s2 hbox hb;refine dn8_ (am_ (IsS130.below (qI_) hb)) (am_ (KeepBut.trans (qK_) (KeepBut.of_below hb g none) (.inl rfl))) (am_ (below_step (qB_) hb)) (am_ (hbox)) (am_ ((by rw[hg];exact(keep_size (w:=w) (g:=g) (row:=none) (qK_)):w.heap.size≤J))) (am_ ((Nat.le_trans HW0.out (by rw[hg];exact(keep_size (w:=w) (g:=g) (row:=none) (qK_)):w.heap.size≤J):s.heap.size≤J))) (am_ ((by rw[hg];exact Nat.ne_of_lt (IsS130.lt (show IsS130 s _ g s0_0 s0_1 s0_2 from qI_)):g≠J))) (am_ ((by rw[hg];exact Nat.ne_of_gt (IsS130.lt (show IsS130 s _ g s0_0 s0_1 s0_2 from qI_)):J≠g))) ?_;clear HI0 HK HB;intro HI0 HK HB m y F z g0;clear hb hbox hg)|((with_reducible refine gc_ 137 ?_);refine gl_ (some 15) Try.func137 #[.int .i64 d6] ?_;(with_reducible refine(spec_WebNew.calls d6 i9 i7 o5 _ o6.out).mono ?_);rintro e s3 ⟨s4,rfl,ho0,hb⟩;refine⟨_,rfl,?_⟩;refine dn5_ (am_ (Kd.R_lower ho0 (keep_size (w:=w) (g:=g) (row:=none) (qK_)))) (am_ (IsS130.below (qI_) hb)) (qbl_ m hb) (am_ (KeepBut.trans (qK_) (KeepBut.of_below hb g none) (.inl rfl))) (am_ (below_step (qB_) hb)) ?_;clear HI0 m HK HB;intro h7 HI0 m HK HB;clear hb;(try clear hb2);clear ho0)|((with_reducible refine gd_ 7 ?_);refine bx_ 7 (cs:= #[.int .i64 0,.slice none 0 0]) (t:=29) ?_;intro C hg s5 hbox hb;refine dn12_ (kb_ h7 hb) (am_ (IsS130.below (qI_) hb)) (qbl_ m hb) (am_ (KeepBut.trans (qK_) (KeepBut.of_below hb g none) (.inl rfl))) (am_ (below_step (qB_) hb)) (am_ (hbox)) (am_ ((by rw[hg];exact(keep_size (w:=w) (g:=g) (row:=none) (qK_)):w.heap.size≤C))) (am_ ((Nat.le_trans HW0.out (by rw[hg];exact(keep_size (w:=w) (g:=g) (row:=none) (qK_)):w.heap.size≤C):s.heap.size≤C))) ((qn_ m hg).1) ((qn_ m hg).2) (am_ ((by rw[hg];exact Nat.ne_of_lt (IsS130.lt (show IsS130 s _ g s0_0 s0_1 s0_2 from qI_)):g≠C))) (am_ ((by rw[hg];exact Nat.ne_of_gt (IsS130.lt (show IsS130 s _ g s0_0 s0_1 s0_2 from qI_)):C≠g))) ?_;clear h7 HI0 m HK HB;intro h7 HI0 m HK HB d A G s6 g6 B e4;clear hb hbox hg;obtain⟨s7,s8⟩:=nn_ g6;obtain⟨s9,t0⟩:=nn_ e4;obtain⟨l8,l9,m0,m1⟩:=bc2_ d;obtain⟨m2,m3,o7⟩:=Kd.R_slice h7.out;subst o7))
 go_loopg [9] k (fun kq v9 w' =>∃ (Y:Int) (g7:Int) (g8:Int) (D:Int) (q:List (S72)) (h8:Value),v9= .int .i64 Y∧Aside0 (spec_l08Web.l0 kq d6 h1 Y s0_0 g7 g8 D q=some (h2,h3,h4,h5))∧Aside0 (kq≤k)∧Aside0 (Kd.R k72 72 w' w.heap.size (fun _=>True) h8 q)∧Aside0 (w'.heap[J]? =some (.cells #[.int .i64 0,(.slice none 0 0)] 29 (0,0)))∧Aside0 (w'.heap[C]? =some (.cells #[.int .i64 D,h8] 29 (0,0)))∧Aside0 (IsS130 s w' g s0_0 g7 g8)∧Aside0 (KeepBut w w' g none)∧Aside0 (Below s.heap.size s w'))
 case atStart=>exact⟨(0),(s0_1),(s0_2),(i9),(i7),(.slice m2 i7.length m3),qe_,H',⟨Nat.le_refl _⟩,⟨by(with_reducible repeat(first|apply Kd.R_alloc|apply Kd.R_drewN|apply Kd.R_drew));exact Kd.R_mono (Kd.R_far (p:=⟨C,1,none⟩) (Kd.R_far (p:=⟨C,0,none⟩) (Kd.R_types h7.out d.out (by decide)) (fun _ hk=>hk.2) (.int .i64 i9)) (fun _ hk=>hk.2) (.slice m2 i7.length m3)) (fun _ hk=>trivial)⟩,⟨qf_ m⟩,⟨qp_ d⟩,⟨qI_⟩,⟨qK_⟩,⟨qB_⟩⟩
 case round=>
  clear H' l8 l9 m0 m1
  obtain⟨Y,g7,g8,D,q,h8,rfl,HA,HK1,a,m,d,HI0,HK,HB⟩:=hrel
  cases gk with
  |zero=>exact absurd HA.out (by simp [spec_l08Web.l0])
  |succ p1=>
   have H:=HA.out;clear HA
   simp only[spec_l08Web.l0]at H
   refine ib_ H ?_ ?_<;>clear H<;>intro g5 H
   ·simp only[Option.some.injEq,Prod.mk.injEq]at H
    obtain⟨rfl,rfl,rfl,rfl⟩:=H
    obtain⟨u3,u4⟩:=nn_ g6;obtain⟨u5,u6⟩:=nn_ e4
    obtain⟨t1,t2,t3,t4⟩:=bc2_ d
    obtain⟨u7,u8⟩:=nn_ g0
    obtain⟨t5,t6,t7,t8⟩:=bc2_ m
    obtain⟨m5,m6,p2⟩:=Kd.R_slice a.out
    subst p2
    go_wp2
    refine bodyPost_ret (results_cell_row rfl _ _ J 29 #[.int .i64 D,.slice m5 q.length m6] (0,0) _ rfl (qp_ m) Try.underlying29 rfl (by kernel_rfl)) rfl ?_
    exact⟨_,qr_,by(with_reducible repeat(first|apply Kd.R_alloc|apply Kd.R_drewN|apply Kd.R_drew));exact Kd.R_mono (Kd.R_far (p:=⟨J,1,none⟩) (Kd.R_far (p:=⟨J,0,none⟩) (Kd.R_types a.out m.out (by decide)) (fun _ hk=>hk.2) (.int .i64 D)) (fun _ hk=>hk.2) (.slice m5 q.length m6)) (fun _ hk=>trivial),qI_,qB_,qK_⟩
   have j4:=am_ H
   clear H
   go_upto_region 5 with (fail)
   go_cut [30] (fun v30 wc=>∃ (kq:Nat) (a2:Bool) (a0:Int) (a1:Int),v30= .bool a2∧Aside0 (spec_l08Web.j1 kq d6 h1 Y a2 s0_0 a0 a1 D q=some (h2,h3,h4,h5))∧Aside0 (kq≤p1)∧Aside0 (Kd.R k72 72 wc w.heap.size (fun _=>True) h8 q)∧Aside0 (wc.heap[J]? =some (.cells #[.int .i64 0,(.slice none 0 0)] 29 (0,0)))∧Aside0 (wc.heap[C]? =some (.cells #[.int .i64 D,h8] 29 (0,0)))∧Aside0 (IsS130 s wc g s0_0 a0 a1)∧Aside0 (KeepBut w wc g none)∧Aside0 (Below s.heap.size s wc))
   case first=>
    have H:=j4.out;clear j4
    refine jb_ H ?_ ?_<;>clear H<;>intro e6 H
    ·have O:decide (4<(q.length:Int))=false:=decide_eq_false e6
     have a3:decide (4<q.length)=false:=decide_eq_false (by omega)
     clear e6
     (first|rw[O]|rw[a3]|(simp only[i64_w,i32_w];rw[O])|skip)
     have H' :=am_ H;clear H;obtain⟨u9,v0⟩:=nn_ g6;obtain⟨v1,v2⟩:=nn_ e4
     obtain⟨p3,p4,p5,p6⟩:=bc2_ d
     obtain⟨t9,w0,p7⟩:=Kd.R_slice a.out
     subst p7
     go_wp2
     go_meet
     case rel=>exact⟨_,(false),(g7),(g8),qe_,H',⟨by have:=HK1.out;first|omega|exact Nat.le_refl _⟩,⟨ra_ a⟩,⟨qk_ m⟩,⟨qk_ d⟩,⟨qI_⟩,⟨qK_⟩,⟨qB_⟩⟩
    have O:decide (4<(q.length:Int))=true:=decide_eq_true e6
    have a3:decide (4<q.length)=true:=decide_eq_true (by omega)
    clear e6
    (first|rw[O]|rw[a3]|(simp only[i64_w,i32_w];rw[O])|skip)
    obtain⟨⟨m7,m8,m9⟩,j5,H⟩:=bs_ H;dsimp only at H;have H' :=am_ H;clear H;obtain⟨v3,v4⟩:=nn_ g6;obtain⟨v5,v6⟩:=nn_ e4
    obtain⟨p8,p9,q0,q1⟩:=bc2_ d
    obtain⟨q2,q3,q4⟩:=Kd.R_slice a.out
    subst q4
    go_wp2_with (first|(go_at_call 98;(with_reducible refine(spec_l01Once.calls g s0_0 g7 g8 3 m7 m8 m9 s _ ?side1 ?side2 j5.out).mono ?_);(case side1=>exact qI_);(case side2=>exact qB_);rintro e q5 ⟨rfl,hi,hb,hk⟩;replace a:=am_ (Kd.R_mono (Kd.R_keep (IsS130.apart (show IsS130 s _ g s0_0 g7 g8 from qI_) (qR_ a) (by decide)) hk (fun _ h=>h.2)) (fun _ h=>h.1));replace m:=am_ (KeepBut.blk hk (g' :=J) (o:= .cells #[.int .i64 0,.slice none 0 0] 29 (0,0)) (qk_ m) g0.out (by simp));replace d:=am_ (KeepBut.blk hk (g' :=C) (o:= .cells #[.int .i64 D,.slice q2 q.length q3] 29 (0,0)) (qk_ d) e4.out (by simp));replace HI0:=am_ (hi);replace HK:=am_ (KeepBut.trans (qK_) hk (.inl rfl));replace HB:=am_ (hb);clear hb hk hi))
    go_meet
    case rel=>exact⟨_,(m7),(m8),(m9),qe_,H',⟨by have:=HK1.out;first|omega|exact Nat.le_refl _⟩,⟨ra_ a⟩,⟨qk_ m⟩,⟨qk_ d⟩,⟨qI_⟩,⟨qK_⟩,⟨qB_⟩⟩
   case rest=>
    clear j4 g5
    obtain⟨kq,a2,a0,a1,rfl,HA,g9,a,m,d,HI0,HK,HB⟩:=hcut
    cases kq with
    |zero=>exact absurd HA.out (by simp [spec_l08Web.j1])
    |succ kj12=>
     have H:=HA.out;clear HA
     simp only[spec_l08Web.j1]at H
     refine ie_ H ?_ ?_<;>clear H<;>rintro rfl H
     ·obtain⟨⟨x,g1,g2⟩,h9,H⟩:=bs_ H;dsimp only at H
      refine ig_ H ?_;clear H;intro j6 H
      refine ig_ H ?_;clear H;intro j7 H
      obtain⟨⟨j8,i8,r2,r3,r4,r5⟩,j9,H⟩:=bs_ H;dsimp only at H;have H' :=am_ H;clear H
      try go_wp2
      replace a:=rd_ a;replace m:=bd_ m;replace d:=bd_ d;replace HI0:=am_ (IsS130.drew HI0.out);replace HK:=am_ (keep_drew HK.out);replace HB:=hd_ HB
      obtain⟨w3,e7,n0⟩:=Kd.R_slice a.out
      (first|subst n0|(injection n0 with b1 e8 b2;have e9:=b1.symm;have f4:=b2.symm;clear b1 e8 b2;subst e9;subst f4))
      have i0:=dt_ x
      have i1:=du_ x q.length
      obtain⟨l,i2,n1,n2,n3,n4⟩:=at_T72 (Kd.R_reads' a.out).2.2 x (ot_ i0) (ot_ i1)
      cases i2
      refine start_ (n:=11) (S:=fun w' =>w'.cell? ⟨C,0,none⟩=some (.int .i64 D)∧w'.cell? ⟨C,1,none⟩=some (.slice (some l) q.length e7)∧w'.cell? (l.add ((x).toNat * 4))=some (.int .i64 ((rd_T72 q x).f0))∧w'.cell? ⟨(l.add ((x).toNat * 4)).block,(l.add ((x).toNat * 4)).off + 1,none⟩=some (.int .i64 ((rd_T72 q x).f1))∧w'.cell? ⟨(l.add ((x).toNat * 4)).block,(l.add ((x).toNat * 4)).off + 2,none⟩=some (.int .i64 ((rd_T72 q x).f2))∧w'.cell? ⟨(l.add ((x).toNat * 4)).block,(l.add ((x).toNat * 4)).off + 3,none⟩=some (.bool ((rd_T72 q x).f3))) (ds:=[]) (bm 11 0) (by kernel_rfl) rfl (by kernel_rfl) ⟨bl_ d 0,bl_ d 1,n1,n2,n3,n4⟩ (fun hHeld=> ?_);refine with_tabW spec_l08Web.tab6 spec_l08Web.bits6 (fun HT_ HW_=> ?_)
      generalize wc.drew=r6 at a m d HI0 HK HB n1 n2 n3 n4 hHeld ⊢
      refine pz_ 0 31 11 1 ?_;refine pz_ 2 33 11 5 ?_;refine pz_ 3 34 11 13 ?_;refine tz6_ 1 32 11 15 ?_;refine tz6_ 4 35 11 31 ?_;refine pz_ 5 36 11 63 ?_
      refine join_ (σ :=Nat) 1 #[true,true,true,true,true,true,true,true,true,true,false] (fun s_=>[(37,.int .i64 x),(10,.pointer (some ⟨s_,0,none⟩)),(38,.pointer (some (l.add ((x).toNat * 4)))),(39,.agg #[.int .i64 ((rd_T72 q x).f0),.int .i64 ((rd_T72 q x).f1),.int .i64 ((rd_T72 q x).f2),.bool ((rd_T72 q x).f3)])]) (fun s_ w' =>(w'.cell? ⟨C,0,none⟩=some (.int .i64 D)∧w'.cell? ⟨C,1,none⟩=some (.slice (some l) q.length e7)∧w'.cell? (l.add ((x).toNat * 4))=some (.int .i64 ((rd_T72 q x).f0))∧w'.cell? ⟨(l.add ((x).toNat * 4)).block,(l.add ((x).toNat * 4)).off + 1,none⟩=some (.int .i64 ((rd_T72 q x).f1))∧w'.cell? ⟨(l.add ((x).toNat * 4)).block,(l.add ((x).toNat * 4)).off + 2,none⟩=some (.int .i64 ((rd_T72 q x).f2))∧w'.cell? ⟨(l.add ((x).toNat * 4)).block,(l.add ((x).toNat * 4)).off + 3,none⟩=some (.bool ((rd_T72 q x).f3)))∧(Kd.R k72 72 w' w.heap.size (fun k_=>k_≠s_) (.slice (some l) q.length e7) q)∧(w'.heap[J]? =some (.cells #[.int .i64 0,.slice none 0 0] 29 (0,0)))∧(w'.heap[C]? =some (.cells #[.int .i64 D,.slice (some l) q.length e7] 29 (0,0)))∧(w'.heap[s_]? =some (.cells #[.int .i64 0,.int .i64 0,.int .i64 0,.bool false] 72 (0,0)))∧(w.heap.size≤s_)∧(s.heap.size≤s_)∧(g≠s_)∧(s_≠g)∧(J≠s_)∧(s_≠J)∧(C≠s_)∧(s_≠C)∧(IsS130 s w' g s0_0 g1 g2)∧(KeepBut w w' g none)∧(Below s.heap.size s w')) ?_ ?_
      rotate_left
      ·intro hCont
       refine two_ (i:=6) (j:=9) (Ni:=some 37) (Nj:=some 10) (bm 11 127) #[true,true,true,true,true,true,false,false,false,true,false] rfl rfl rfl rfl (two_of HT_.out (by kernel_rfl)) (by decide) (by decide) (fun K hK=> ?_) (fun K hK=> ?_)
       ·skip
        refine gs_ Try.func99 #[.pointer (some ⟨g,0,none⟩),.int .i64 (q.length:Int)] ?_
        with_reducible refine(spec_l01Below.calls g s0_0 a0 a1 (q.length:Int) x g1 g2 s _ ?side1 ?side2 h9.out).mono ?_
        (case side1=>exact qI_)
        (case side2=>exact qB_)
        rintro e k0 ⟨rfl,hi,hb,hk⟩
        have HS2_:=keep_cell hk (hHeld.2.2.1) (by first|(rw[add_block];exact Kd.own_blk (IsS130.own_ne HI0.out a.out (by decide)))|(show(Addr.add _ _).block≠_;rw[add_block];exact Kd.own_blk (IsS130.own_ne HI0.out a.out (by decide)))|exact Kd.own_blk (IsS130.own_ne HI0.out a.out (by decide)))
        have HS3_:=keep_cell hk (hHeld.2.2.2.1) (by first|(rw[add_block];exact Kd.own_blk (IsS130.own_ne HI0.out a.out (by decide)))|(show(Addr.add _ _).block≠_;rw[add_block];exact Kd.own_blk (IsS130.own_ne HI0.out a.out (by decide)))|exact Kd.own_blk (IsS130.own_ne HI0.out a.out (by decide)))
        have HS4_:=keep_cell hk (hHeld.2.2.2.2.1) (by first|(rw[add_block];exact Kd.own_blk (IsS130.own_ne HI0.out a.out (by decide)))|(show(Addr.add _ _).block≠_;rw[add_block];exact Kd.own_blk (IsS130.own_ne HI0.out a.out (by decide)))|exact Kd.own_blk (IsS130.own_ne HI0.out a.out (by decide)))
        have HS5_:=keep_cell hk (hHeld.2.2.2.2.2) (by first|(rw[add_block];exact Kd.own_blk (IsS130.own_ne HI0.out a.out (by decide)))|(show(Addr.add _ _).block≠_;rw[add_block];exact Kd.own_blk (IsS130.own_ne HI0.out a.out (by decide)))|exact Kd.own_blk (IsS130.own_ne HI0.out a.out (by decide)))
        refine⟨_,rfl,?_⟩
        replace a:=am_ (Kd.R_mono (Kd.R_keep (IsS130.apart (show IsS130 s _ g s0_0 a0 a1 from qI_) (qR_ a) (by decide)) hk (fun _ h=>h.2)) (fun _ h=>h.1));replace m:=am_ (KeepBut.blk hk (g' :=J) (o:= .cells #[.int .i64 0,.slice none 0 0] 29 (0,0)) (qk_ m) g0.out (by simp));replace d:=am_ (KeepBut.blk hk (g' :=C) (o:= .cells #[.int .i64 D,.slice (some l) q.length e7] 29 (0,0)) (qk_ d) e4.out (by simp));replace HI0:=am_ (hi);replace HK:=am_ (KeepBut.trans (qK_) hk (.inl rfl));replace HB:=am_ (hb);clear hb hk hi
        refine hK.out _ _ ⟨bl_ d 0,bl_ d 1,HS2_,HS3_,HS4_,HS5_⟩ (fun hHeld=> ?_)
        clear hK K
        refine nm_ 37 ?_
        refine pz_ 7 38 11 255 ?_;refine tz6_ 8 39 11 511 ?_
        refine o1_ 9 (some 10) 11 1023 (fun K hK=> ?_)
        refine box_step ?hg (N:=10) ?hd (cs:= #[.int .i64 0,.int .i64 0,.int .i64 0,.bool false]) (t:=72) ?hr ?_;(case hd=>rfl);(case hg=>rfl);(case hr=>first|(go_simp;done)|(go_simp;rfl))
        intro v hg k1 hbox hb
        have HS2_:=(hb.cell (World.block_lt_of_cell? _ _ (hHeld.2.2.1))).trans (hHeld.2.2.1)
        have HS3_:=(hb.cell (World.block_lt_of_cell? _ _ (hHeld.2.2.2.1))).trans (hHeld.2.2.2.1)
        have HS4_:=(hb.cell (World.block_lt_of_cell? _ _ (hHeld.2.2.2.2.1))).trans (hHeld.2.2.2.2.1)
        have HS5_:=(hb.cell (World.block_lt_of_cell? _ _ (hHeld.2.2.2.2.2))).trans (hHeld.2.2.2.2.2)
        refine dn15_ (am_ (Kd.R_below (Kd.R_elderB (qR_ a) v (Nat.le_of_eq hg.symm)) hb)) (qbl_ m hb) (qbl_ d hb) (am_ (IsS130.below (qI_) hb)) (am_ (KeepBut.trans (qK_) (KeepBut.of_below hb g none) (.inl rfl))) (am_ (below_step (qB_) hb)) (am_ (hbox)) (am_ ((by rw[hg];exact(keep_size (w:=w) (g:=g) (row:=none) (qK_)):w.heap.size≤v))) (am_ ((Nat.le_trans HW0.out (by rw[hg];exact(keep_size (w:=w) (g:=g) (row:=none) (qK_)):w.heap.size≤v):s.heap.size≤v))) ((qn_ m hg).1) ((qn_ m hg).2) ((qn_ d hg).1) ((qn_ d hg).2) (am_ ((by rw[hg];exact Nat.ne_of_lt (IsS130.lt (show IsS130 s _ g s0_0 g1 g2 from qI_)):g≠v))) (am_ ((by rw[hg];exact Nat.ne_of_gt (IsS130.lt (show IsS130 s _ g s0_0 g1 g2 from qI_)):v≠g))) ?_;clear a m d HI0 HK HB;intro a m d HI0 HK HB a4 f5 f7 g3 f8 b3 g4 f6 h0;clear hb hbox hg
        refine hK.out _ _ ⟨bl_ d 0,bl_ d 1,HS2_,HS3_,HS4_,HS5_⟩ (fun hHeld=> ?_)
        clear hK K
        refine nm_ 10 ?_
        exact norm_ (by simp only[putAll,Act.put,sA_,sB_,sC_]) (hCont (v) _ ⟨hHeld,(by(with_reducible repeat(first|apply Kd.R_alloc|apply Kd.R_drewN|apply Kd.R_drew));exact Kd.R_mono a.out (fun _ hk=>hk.2)),(qk_ m),(qk_ d),(qk_ a4),f5.out,f7.out,f6.out,h0.out,g3.out,f8.out,b3.out,g4.out,(qI_),(qK_),(qB_)⟩)
       skip
       refine box_step ?hg (N:=10) ?hd (cs:= #[.int .i64 0,.int .i64 0,.int .i64 0,.bool false]) (t:=72) ?hr ?_;(case hd=>rfl);(case hg=>rfl);(case hr=>first|(go_simp;done)|(go_simp;rfl))
       intro v hg k0 hbox hb
       have HS2_:=(hb.cell (World.block_lt_of_cell? _ _ (hHeld.2.2.1))).trans (hHeld.2.2.1)
       have HS3_:=(hb.cell (World.block_lt_of_cell? _ _ (hHeld.2.2.2.1))).trans (hHeld.2.2.2.1)
       have HS4_:=(hb.cell (World.block_lt_of_cell? _ _ (hHeld.2.2.2.2.1))).trans (hHeld.2.2.2.2.1)
       have HS5_:=(hb.cell (World.block_lt_of_cell? _ _ (hHeld.2.2.2.2.2))).trans (hHeld.2.2.2.2.2)
       refine dn15_ (am_ (Kd.R_below (Kd.R_elderB (qR_ a) v (Nat.le_of_eq hg.symm)) hb)) (qbl_ m hb) (qbl_ d hb) (am_ (IsS130.below (qI_) hb)) (am_ (KeepBut.trans (qK_) (KeepBut.of_below hb g none) (.inl rfl))) (am_ (below_step (qB_) hb)) (am_ (hbox)) (am_ ((by rw[hg];exact(keep_size (w:=w) (g:=g) (row:=none) (qK_)):w.heap.size≤v))) (am_ ((Nat.le_trans HW0.out (by rw[hg];exact(keep_size (w:=w) (g:=g) (row:=none) (qK_)):w.heap.size≤v):s.heap.size≤v))) ((qn_ m hg).1) ((qn_ m hg).2) ((qn_ d hg).1) ((qn_ d hg).2) (am_ ((by rw[hg];exact Nat.ne_of_lt (IsS130.lt (show IsS130 s _ g s0_0 a0 a1 from qI_)):g≠v))) (am_ ((by rw[hg];exact Nat.ne_of_gt (IsS130.lt (show IsS130 s _ g s0_0 a0 a1 from qI_)):v≠g))) ?_;clear a m d HI0 HK HB;intro a m d HI0 HK HB a4 f5 f7 g3 f8 b3 g4 f6 h0;clear hb hbox hg
       refine hK.out _ _ ⟨bl_ d 0,bl_ d 1,HS2_,HS3_,HS4_,HS5_⟩ (fun hHeld=> ?_)
       clear hK K
       refine nm_ 10 ?_
       refine o1_ 6 (some 37) 11 639 (fun K hK=> ?_)
       refine gs_ Try.func99 #[.pointer (some ⟨g,0,none⟩),.int .i64 (q.length:Int)] ?_
       with_reducible refine(spec_l01Below.calls g s0_0 a0 a1 (q.length:Int) x g1 g2 s _ ?side1 ?side2 h9.out).mono ?_
       (case side1=>exact qI_)
       (case side2=>exact qB_)
       rintro e k1 ⟨rfl,hi,hb,hk⟩
       have HS2_:=keep_cell hk (hHeld.2.2.1) (by first|(rw[add_block];exact Kd.own_blk (IsS130.own_ne HI0.out a.out (by decide)))|(show(Addr.add _ _).block≠_;rw[add_block];exact Kd.own_blk (IsS130.own_ne HI0.out a.out (by decide)))|exact Kd.own_blk (IsS130.own_ne HI0.out a.out (by decide)))
       have HS3_:=keep_cell hk (hHeld.2.2.2.1) (by first|(rw[add_block];exact Kd.own_blk (IsS130.own_ne HI0.out a.out (by decide)))|(show(Addr.add _ _).block≠_;rw[add_block];exact Kd.own_blk (IsS130.own_ne HI0.out a.out (by decide)))|exact Kd.own_blk (IsS130.own_ne HI0.out a.out (by decide)))
       have HS4_:=keep_cell hk (hHeld.2.2.2.2.1) (by first|(rw[add_block];exact Kd.own_blk (IsS130.own_ne HI0.out a.out (by decide)))|(show(Addr.add _ _).block≠_;rw[add_block];exact Kd.own_blk (IsS130.own_ne HI0.out a.out (by decide)))|exact Kd.own_blk (IsS130.own_ne HI0.out a.out (by decide)))
       have HS5_:=keep_cell hk (hHeld.2.2.2.2.2) (by first|(rw[add_block];exact Kd.own_blk (IsS130.own_ne HI0.out a.out (by decide)))|(show(Addr.add _ _).block≠_;rw[add_block];exact Kd.own_blk (IsS130.own_ne HI0.out a.out (by decide)))|exact Kd.own_blk (IsS130.own_ne HI0.out a.out (by decide)))
       refine⟨_,rfl,?_⟩
       replace a:=am_ (Kd.R_mono (Kd.R_keep (IsS130.apart (show IsS130 s _ g s0_0 a0 a1 from qI_) (qR_ a) (by decide)) hk (fun _ h=>h.2)) (fun _ h=>h.1));replace m:=am_ (KeepBut.blk hk (g' :=J) (o:= .cells #[.int .i64 0,.slice none 0 0] 29 (0,0)) (qk_ m) g0.out (by simp));replace d:=am_ (KeepBut.blk hk (g' :=C) (o:= .cells #[.int .i64 D,.slice (some l) q.length e7] 29 (0,0)) (qk_ d) e4.out (by simp));replace a4:=am_ (KeepBut.blk hk (g' :=v) (o:= .cells #[.int .i64 0,.int .i64 0,.int .i64 0,.bool false] 72 (0,0)) (qk_ a4) h0.out (by simp));replace HI0:=am_ (hi);replace HK:=am_ (KeepBut.trans (qK_) hk (.inl rfl));replace HB:=am_ (hb);clear hb hk hi
       refine hK.out _ _ ⟨bl_ d 0,bl_ d 1,HS2_,HS3_,HS4_,HS5_⟩ (fun hHeld=> ?_)
       clear hK K
       refine nm_ 37 ?_
       refine pz_ 7 38 11 767 ?_;refine tz6_ 8 39 11 1023 ?_
       exact norm_ (by simp only[putAll,Act.put,sA_,sB_,sC_]) (hCont (v) _ ⟨hHeld,(by(with_reducible repeat(first|apply Kd.R_alloc|apply Kd.R_drewN|apply Kd.R_drew));exact Kd.R_mono a.out (fun _ hk=>hk.2)),(qk_ m),(qk_ d),(qk_ a4),f5.out,f7.out,f6.out,h0.out,g3.out,f8.out,b3.out,g4.out,(qI_),(qK_),(qB_)⟩)
      rintro v I ⟨hS_,b4,b5,b6,b7,b8,b9,c0,c1,c2,c3,h10_,h11_,h12_,h13_,h14_⟩
      have c4:Aside0 (Kd.R k72 72 I w.heap.size (fun k_=>k_≠v) (.slice (some l) q.length e7) q):=⟨b4⟩
      have c5:Aside0 (I.heap[J]? =some (.cells #[.int .i64 0,.slice none 0 0] 29 (0,0))):=⟨b5⟩
      have c6:Aside0 (I.heap[C]? =some (.cells #[.int .i64 D,.slice (some l) q.length e7] 29 (0,0))):=⟨b6⟩
      have c7:Aside0 (I.heap[v]? =some (.cells #[.int .i64 0,.int .i64 0,.int .i64 0,.bool false] 72 (0,0))):=⟨b7⟩
      have c8:Aside0 (w.heap.size≤v):=⟨b8⟩
      have c9:Aside0 (s.heap.size≤v):=⟨b9⟩
      have d0:Aside0 (g≠v):=⟨c0⟩
      have d1:Aside0 (v≠g):=⟨c1⟩
      have d2:Aside0 (J≠v):=⟨c2⟩
      have d3:Aside0 (v≠J):=⟨c3⟩
      have n10_:Aside0 (C≠v):=⟨h10_⟩
      have n11_:Aside0 (v≠C):=⟨h11_⟩
      have n12_:Aside0 (IsS130 s I g s0_0 g1 g2):=⟨h12_⟩
      have n13_:Aside0 (KeepBut w I g none):=⟨h13_⟩
      have n14_:Aside0 (Below s.heap.size s I):=⟨h14_⟩
      clear a m d HI0 HK HB b4 b5 b6 b7 b8 b9 c0 c1 c2 c3 h10_ h11_ h12_ h13_ h14_;have a:=c4;have m:=c5;have d:=c6;have a4:=c7;have f5:=c8;have f7:=c9;have f6:=d0;have h0:=d1;have g3:=d2;have f8:=d3;have b3:=n10_;have g4:=n11_;have HI0:=n12_;have HK:=n13_;have HB:=n14_;clear c4 c5 c6 c7 c8 c9 d0 d1 d2 d3 n10_ n11_ n12_ n13_ n14_
      have hHeld:I.cell? ⟨C,0,none⟩=some (.int .i64 D)∧I.cell? ⟨C,1,none⟩=some (.slice (some l) q.length e7)∧I.cell? (l.add ((x).toNat * 4))=some (.int .i64 ((rd_T72 q x).f0))∧I.cell? ⟨(l.add ((x).toNat * 4)).block,(l.add ((x).toNat * 4)).off + 1,none⟩=some (.int .i64 ((rd_T72 q x).f1))∧I.cell? ⟨(l.add ((x).toNat * 4)).block,(l.add ((x).toNat * 4)).off + 2,none⟩=some (.int .i64 ((rd_T72 q x).f2))∧I.cell? ⟨(l.add ((x).toNat * 4)).block,(l.add ((x).toNat * 4)).off + 3,none⟩=some (.bool ((rd_T72 q x).f3)):=hS_
      refine norm_ (a' := ?_) ?_ ?_
      rotate_left
      ·simp only[putAll,Act.put,sA_,sB_,sC_]
       rfl
      refine o1_ 10 none 11 2047 (fun K hK=> ?_)
      have n5:I.cell? ⟨v,0,none⟩=some (.int .i64 0):=bl_ a4 0
      have k2:=blk_frozen a4.out 0
      have w4:=g3.out;have w5:=b3.out;have w6:=f8.out;have w7:=g4.out
      have n6:I.cell? ⟨v,1,none⟩=some (.int .i64 0):=bl_ a4 1
      have k3:=blk_frozen a4.out 1
      have w8:=g3.out;have w9:=b3.out;have x0:=f8.out;have x1:=g4.out
      have n7:I.cell? ⟨v,2,none⟩=some (.int .i64 0):=bl_ a4 2
      have k4:=blk_frozen a4.out 2
      have x2:=g3.out;have x3:=b3.out;have x4:=f8.out;have x5:=g4.out
      have n8:I.cell? ⟨v,3,none⟩=some (.bool false):=bl_ a4 3
      have k5:=blk_frozen a4.out 3
      have x6:=g3.out;have x7:=b3.out;have x8:=f8.out;have x9:=g4.out
      refine skip_ (w1:= ?_) (by rfl) rfl ?_ ?_
      rotate_left
      ·go_simp
       rfl
      refine hK.out _ _ ⟨((cell_far (p:=⟨v,_,none⟩) b3.out _).trans (((cell_far (p:=⟨v,_,none⟩) b3.out _).trans (((cell_far (p:=⟨v,_,none⟩) b3.out _).trans (((cell_far (p:=⟨v,_,none⟩) b3.out _).trans (hHeld.1)))))))),((cell_far (p:=⟨v,_,none⟩) b3.out _).trans (((cell_far (p:=⟨v,_,none⟩) b3.out _).trans (((cell_far (p:=⟨v,_,none⟩) b3.out _).trans (((cell_far (p:=⟨v,_,none⟩) b3.out _).trans (hHeld.2.1)))))))),((cell_far (p:=⟨v,_,none⟩) (by first|exact Kd.own_blk (Kd.R_away a.out (fun _ hk=>hk))|(rw[add_block];exact Kd.own_blk (Kd.R_away a.out (fun _ hk=>hk)))|(show(Addr.add _ _).block≠_;rw[add_block];exact Kd.own_blk (Kd.R_away a.out (fun _ hk=>hk)))|(dsimp only;exact Kd.own_blk (Kd.R_away a.out (fun _ hk=>hk)))) _).trans (((cell_far (p:=⟨v,_,none⟩) (by first|exact Kd.own_blk (Kd.R_away a.out (fun _ hk=>hk))|(rw[add_block];exact Kd.own_blk (Kd.R_away a.out (fun _ hk=>hk)))|(show(Addr.add _ _).block≠_;rw[add_block];exact Kd.own_blk (Kd.R_away a.out (fun _ hk=>hk)))|(dsimp only;exact Kd.own_blk (Kd.R_away a.out (fun _ hk=>hk)))) _).trans (((cell_far (p:=⟨v,_,none⟩) (by first|exact Kd.own_blk (Kd.R_away a.out (fun _ hk=>hk))|(rw[add_block];exact Kd.own_blk (Kd.R_away a.out (fun _ hk=>hk)))|(show(Addr.add _ _).block≠_;rw[add_block];exact Kd.own_blk (Kd.R_away a.out (fun _ hk=>hk)))|(dsimp only;exact Kd.own_blk (Kd.R_away a.out (fun _ hk=>hk)))) _).trans (((cell_far (p:=⟨v,_,none⟩) (by first|exact Kd.own_blk (Kd.R_away a.out (fun _ hk=>hk))|(rw[add_block];exact Kd.own_blk (Kd.R_away a.out (fun _ hk=>hk)))|(show(Addr.add _ _).block≠_;rw[add_block];exact Kd.own_blk (Kd.R_away a.out (fun _ hk=>hk)))|(dsimp only;exact Kd.own_blk (Kd.R_away a.out (fun _ hk=>hk)))) _).trans (hHeld.2.2.1)))))))),((cell_far (p:=⟨v,_,none⟩) (by first|exact Kd.own_blk (Kd.R_away a.out (fun _ hk=>hk))|(rw[add_block];exact Kd.own_blk (Kd.R_away a.out (fun _ hk=>hk)))|(show(Addr.add _ _).block≠_;rw[add_block];exact Kd.own_blk (Kd.R_away a.out (fun _ hk=>hk)))|(dsimp only;exact Kd.own_blk (Kd.R_away a.out (fun _ hk=>hk)))) _).trans (((cell_far (p:=⟨v,_,none⟩) (by first|exact Kd.own_blk (Kd.R_away a.out (fun _ hk=>hk))|(rw[add_block];exact Kd.own_blk (Kd.R_away a.out (fun _ hk=>hk)))|(show(Addr.add _ _).block≠_;rw[add_block];exact Kd.own_blk (Kd.R_away a.out (fun _ hk=>hk)))|(dsimp only;exact Kd.own_blk (Kd.R_away a.out (fun _ hk=>hk)))) _).trans (((cell_far (p:=⟨v,_,none⟩) (by first|exact Kd.own_blk (Kd.R_away a.out (fun _ hk=>hk))|(rw[add_block];exact Kd.own_blk (Kd.R_away a.out (fun _ hk=>hk)))|(show(Addr.add _ _).block≠_;rw[add_block];exact Kd.own_blk (Kd.R_away a.out (fun _ hk=>hk)))|(dsimp only;exact Kd.own_blk (Kd.R_away a.out (fun _ hk=>hk)))) _).trans (((cell_far (p:=⟨v,_,none⟩) (by first|exact Kd.own_blk (Kd.R_away a.out (fun _ hk=>hk))|(rw[add_block];exact Kd.own_blk (Kd.R_away a.out (fun _ hk=>hk)))|(show(Addr.add _ _).block≠_;rw[add_block];exact Kd.own_blk (Kd.R_away a.out (fun _ hk=>hk)))|(dsimp only;exact Kd.own_blk (Kd.R_away a.out (fun _ hk=>hk)))) _).trans (hHeld.2.2.2.1)))))))),((cell_far (p:=⟨v,_,none⟩) (by first|exact Kd.own_blk (Kd.R_away a.out (fun _ hk=>hk))|(rw[add_block];exact Kd.own_blk (Kd.R_away a.out (fun _ hk=>hk)))|(show(Addr.add _ _).block≠_;rw[add_block];exact Kd.own_blk (Kd.R_away a.out (fun _ hk=>hk)))|(dsimp only;exact Kd.own_blk (Kd.R_away a.out (fun _ hk=>hk)))) _).trans (((cell_far (p:=⟨v,_,none⟩) (by first|exact Kd.own_blk (Kd.R_away a.out (fun _ hk=>hk))|(rw[add_block];exact Kd.own_blk (Kd.R_away a.out (fun _ hk=>hk)))|(show(Addr.add _ _).block≠_;rw[add_block];exact Kd.own_blk (Kd.R_away a.out (fun _ hk=>hk)))|(dsimp only;exact Kd.own_blk (Kd.R_away a.out (fun _ hk=>hk)))) _).trans (((cell_far (p:=⟨v,_,none⟩) (by first|exact Kd.own_blk (Kd.R_away a.out (fun _ hk=>hk))|(rw[add_block];exact Kd.own_blk (Kd.R_away a.out (fun _ hk=>hk)))|(show(Addr.add _ _).block≠_;rw[add_block];exact Kd.own_blk (Kd.R_away a.out (fun _ hk=>hk)))|(dsimp only;exact Kd.own_blk (Kd.R_away a.out (fun _ hk=>hk)))) _).trans (((cell_far (p:=⟨v,_,none⟩) (by first|exact Kd.own_blk (Kd.R_away a.out (fun _ hk=>hk))|(rw[add_block];exact Kd.own_blk (Kd.R_away a.out (fun _ hk=>hk)))|(show(Addr.add _ _).block≠_;rw[add_block];exact Kd.own_blk (Kd.R_away a.out (fun _ hk=>hk)))|(dsimp only;exact Kd.own_blk (Kd.R_away a.out (fun _ hk=>hk)))) _).trans (hHeld.2.2.2.2.1)))))))),((cell_far (p:=⟨v,_,none⟩) (by first|exact Kd.own_blk (Kd.R_away a.out (fun _ hk=>hk))|(rw[add_block];exact Kd.own_blk (Kd.R_away a.out (fun _ hk=>hk)))|(show(Addr.add _ _).block≠_;rw[add_block];exact Kd.own_blk (Kd.R_away a.out (fun _ hk=>hk)))|(dsimp only;exact Kd.own_blk (Kd.R_away a.out (fun _ hk=>hk)))) _).trans (((cell_far (p:=⟨v,_,none⟩) (by first|exact Kd.own_blk (Kd.R_away a.out (fun _ hk=>hk))|(rw[add_block];exact Kd.own_blk (Kd.R_away a.out (fun _ hk=>hk)))|(show(Addr.add _ _).block≠_;rw[add_block];exact Kd.own_blk (Kd.R_away a.out (fun _ hk=>hk)))|(dsimp only;exact Kd.own_blk (Kd.R_away a.out (fun _ hk=>hk)))) _).trans (((cell_far (p:=⟨v,_,none⟩) (by first|exact Kd.own_blk (Kd.R_away a.out (fun _ hk=>hk))|(rw[add_block];exact Kd.own_blk (Kd.R_away a.out (fun _ hk=>hk)))|(show(Addr.add _ _).block≠_;rw[add_block];exact Kd.own_blk (Kd.R_away a.out (fun _ hk=>hk)))|(dsimp only;exact Kd.own_blk (Kd.R_away a.out (fun _ hk=>hk)))) _).trans (((cell_far (p:=⟨v,_,none⟩) (by first|exact Kd.own_blk (Kd.R_away a.out (fun _ hk=>hk))|(rw[add_block];exact Kd.own_blk (Kd.R_away a.out (fun _ hk=>hk)))|(show(Addr.add _ _).block≠_;rw[add_block];exact Kd.own_blk (Kd.R_away a.out (fun _ hk=>hk)))|(dsimp only;exact Kd.own_blk (Kd.R_away a.out (fun _ hk=>hk)))) _).trans (hHeld.2.2.2.2.2))))))))⟩ (fun hHeld=> ?_)
      clear hK K
      refine done_ (done_of HT_.out (by kernel_rfl)) ?_
      obtain⟨v7,v8⟩:=nn_ g6;obtain⟨y0,y1⟩:=nn_ b3;obtain⟨y2,y3⟩:=nn_ e4
      obtain⟨y4,y5,y6,y7⟩:=bc2_ d
      obtain⟨y8,y9⟩:=nn_ f8;obtain⟨z0,z1⟩:=nn_ h0
      obtain⟨z2,z3,z4,z5,z6,z7,z8,z9⟩:=bc4_ a4
      try go_wp2_with (first|((with_reducible refine gc_ 41 ?_);refine gl_ (some 47) Try.func41 #[.agg #[.int .i64 D,.slice (some l) q.length e7],.agg #[.int .i64 ((rd_T72 q x).f0),.int .i64 ((rd_T72 q x).f1)]] ?_;(with_reducible refine(spec_WebTake.calls kj12 D _ _ q ((rd_T72 q x).f0) ((rd_T72 q x).f1) j8 i8 r2 r3 r4 r5 _ ?side1 ?side2 j9.out).mono ?_);(case side1=>refine(Kd.R_reads' (e:=72) (base:=w.heap.size) (ok:=fun k_=>k_≠v) (n:=q.length) (c:=e7) ?_).2.2;exact(by(with_reducible repeat(first|apply Kd.R_alloc|apply Kd.R_drewN|apply Kd.R_drew));exact(Kd.R_mono (Kd.R_far (p:=⟨v,3,none⟩) (Kd.R_far (p:=⟨v,2,none⟩) (Kd.R_far (p:=⟨v,1,none⟩) (Kd.R_far (p:=⟨v,0,none⟩) (Kd.R_mono a.out (fun k_ hk=>(⟨hk,hk⟩:_∧k_≠v))) (fun _ hk=>hk.2) (.int .i64 ((rd_T72 q x).f0))) (fun _ hk=>hk.2) (.int .i64 ((rd_T72 q x).f1))) (fun _ hk=>hk.2) (.int .i64 ((rd_T72 q x).f2))) (fun _ hk=>hk.2) (.bool ((rd_T72 q x).f3))) (fun _ h_=>h_.1))));(case side2=>exact(Kd.R_reads' a.out).2.1);rintro e r7 ⟨A0,rfl,ho0,hb⟩;refine⟨_,rfl,?_⟩;refine dn8_ (am_ (Kd.R_elder' (by(with_reducible repeat(first|apply Kd.R_alloc|apply Kd.R_drewN|apply Kd.R_drew));exact(Kd.R_mono (Kd.R_far (p:=⟨v,3,none⟩) (Kd.R_far (p:=⟨v,2,none⟩) (Kd.R_far (p:=⟨v,1,none⟩) (Kd.R_far (p:=⟨v,0,none⟩) (Kd.R_mono a.out (fun k_ hk=>(⟨hk,hk⟩:_∧k_≠v))) (fun _ hk=>hk.2) (.int .i64 ((rd_T72 q x).f0))) (fun _ hk=>hk.2) (.int .i64 ((rd_T72 q x).f1))) (fun _ hk=>hk.2) (.int .i64 ((rd_T72 q x).f2))) (fun _ hk=>hk.2) (.bool ((rd_T72 q x).f3))) (fun _ h_=>h_.1))) (Kd.R_base ho0) hb)) (am_ (Kd.R_lower (Kd.R_newB (Kd.R_new' ho0 (Kd.R_lt (by(with_reducible repeat(first|apply Kd.R_alloc|apply Kd.R_drewN|apply Kd.R_drew));exact(Kd.R_mono (Kd.R_far (p:=⟨v,3,none⟩) (Kd.R_far (p:=⟨v,2,none⟩) (Kd.R_far (p:=⟨v,1,none⟩) (Kd.R_far (p:=⟨v,0,none⟩) (Kd.R_mono a.out (fun k_ hk=>(⟨hk,hk⟩:_∧k_≠v))) (fun _ hk=>hk.2) (.int .i64 ((rd_T72 q x).f0))) (fun _ hk=>hk.2) (.int .i64 ((rd_T72 q x).f1))) (fun _ hk=>hk.2) (.int .i64 ((rd_T72 q x).f2))) (fun _ hk=>hk.2) (.bool ((rd_T72 q x).f3))) (fun _ h_=>h_.1))))) (g:=v) (o:= .cells #[.int .i64 ((rd_T72 q x).f0),.int .i64 ((rd_T72 q x).f1),.int .i64 ((rd_T72 q x).f2),.bool ((rd_T72 q x).f3)] 72 (0,0)) (qp_ a4)) (keep_size (w:=w) (g:=g) (row:=none) (qK_)))) (qbl_ m hb) (qbl_ d hb) (am_ (IsS130.below (show IsS130 s ((((I.setCell ⟨v,0,none⟩ (.int .i64 ((rd_T72 q x).f0))).setCell ⟨v,1,none⟩ (.int .i64 ((rd_T72 q x).f1))).setCell ⟨v,2,none⟩ (.int .i64 ((rd_T72 q x).f2))).setCell ⟨v,3,none⟩ (.bool ((rd_T72 q x).f3))) g s0_0 g1 g2 from qI_) hb)) (am_ (blk_below (g:=v) (o:= .cells #[.int .i64 ((rd_T72 q x).f0),.int .i64 ((rd_T72 q x).f1),.int .i64 ((rd_T72 q x).f2),.bool ((rd_T72 q x).f3)] 72 (0,0)) (qp_ a4) hb)) (am_ (KeepBut.trans (qK_) (KeepBut.of_below hb g none) (.inl rfl))) (am_ (below_step (qB_) hb)) ?_;clear a m d HI0 a4 HK HB;intro a j3 m d HI0 a4 HK HB;clear hb ho0;obtain⟨A1,A2,A3,A4⟩:=bc2_ d;obtain⟨l1,l2,r8⟩:=Kd.R_slice j3.out;subst r8))
      go_roundg kj12
      case measure=>have:=HK1.out;have:=g9.out;omega
      case rel=>exact⟨(wrap64 (Y + 1)),(g1),(g2),(j8),(i8),(.slice l1 i8.length l2),qe_,H',⟨by have:=HK1.out;have:=g9.out;omega⟩,⟨by(with_reducible repeat(first|apply Kd.R_alloc|apply Kd.R_drewN|apply Kd.R_drew));exact Kd.R_mono (Kd.R_far (p:=⟨C,1,none⟩) (Kd.R_far (p:=⟨C,0,none⟩) (Kd.R_types j3.out d.out (by decide)) (fun _ hk=>hk.2) (.int .i64 j8)) (fun _ hk=>hk.2) (.slice l1 i8.length l2)) (fun _ hk=>trivial)⟩,⟨qf_ m⟩,⟨qp_ d⟩,⟨qI_⟩,⟨qK_⟩,⟨qB_⟩⟩
     obtain⟨⟨a5,a6,a7,a8⟩,f9,H⟩:=bs_ H;dsimp only at H
     obtain⟨⟨d7,d9,A5⟩,e5,H⟩:=bs_ H;dsimp only at H
     refine id_ H ?_ ?_<;>clear H<;>rintro rfl H
     ·have H' :=am_ H;clear H
      obtain⟨e0,e1,r9⟩:=Kd.R_slice a.out
      subst r9
      try go_wp2
      replace a:=rd_ a;replace m:=bd_ m;replace d:=bd_ d;replace HI0:=am_ (IsS130.drew HI0.out);replace HK:=am_ (keep_drew HK.out);replace HB:=hd_ HB
      refine start_ (n:=11) (S:=fun w' =>w'.cell? ⟨C,0,none⟩=some (.int .i64 D)∧w'.cell? ⟨C,1,none⟩=some (.slice e0 q.length e1)) (ds:=[]) (bm 11 0) (by kernel_rfl) rfl (by kernel_rfl) ⟨bl_ d 0,bl_ d 1⟩ (fun hHeld=> ?_);refine with_tabW spec_l08Web.tab8 spec_l08Web.bits8 (fun HT_ HW_=> ?_)
      generalize wc.drew=s0 at a m d HI0 HK HB hHeld ⊢
      refine pz_ 1 54 11 2 ?_;refine pz_ 2 55 11 6 ?_;refine tz2_ 0 53 11 7 ?_
      refine join_ (σ :=Value × Nat) 2 #[true,true,true,true,true,true,true,true,true,false,false] (fun s_=>[(56,.agg #[.int .i64 a5,.int .i64 a6]),(57,.tuple #[.agg #[.int .i64 d7,s_.1],.bool false]),(11,.pointer (some ⟨s_.2,0,none⟩)),(52,.tuple #[.agg #[.int .i64 d7,s_.1],.bool false]),(58,.agg #[.int .i64 d7,s_.1]),(59,.bool false)]) (fun s_ w' =>(w'.cell? ⟨C,0,none⟩=some (.int .i64 D)∧w'.cell? ⟨C,1,none⟩=some (.slice e0 q.length e1))∧(Kd.R k72 72 w' w.heap.size (fun k_=>some k_≠(.slice e0 q.length e1:Value).ownBlock) s_.1 d9)∧(Kd.R k72 72 w' w.heap.size (fun k_=>some k_≠(s_.1:Value).ownBlock) (.slice e0 q.length e1) q)∧(w'.heap[J]? =some (.cells #[.int .i64 0,.slice none 0 0] 29 (0,0)))∧(w'.heap[C]? =some (.cells #[.int .i64 D,.slice e0 q.length e1] 29 (0,0)))∧(w'.heap[s_.2]? =some (.cells #[.int .i64 0,.slice none 0 0] 29 (0,0)))∧(w.heap.size≤s_.2)∧(s.heap.size≤s_.2)∧(g≠s_.2)∧(s_.2≠g)∧(J≠s_.2)∧(s_.2≠J)∧(C≠s_.2)∧(s_.2≠C)∧(IsS130 s w' g s0_0 a7 a8)∧(KeepBut w w' g none)∧(Below s.heap.size s w')) ?_ ?_
      rotate_left
      ·intro hCont
       refine two_ (i:=3) (j:=8) (Ni:=some 56) (Nj:=some 11) (bm 11 15) #[true,true,true,false,false,false,false,false,true,false,false] rfl rfl rfl rfl (two_of HT_.out (by kernel_rfl)) (by decide) (by decide) (fun K hK=> ?_) (fun K hK=> ?_)
       ·skip
        refine gs_ Try.func100 #[.pointer (some ⟨g,0,none⟩),.int .i64 d6] ?_
        with_reducible refine(spec_l05Edge.calls g s0_0 a0 a1 d6 a5 a6 a7 a8 s _ ?side1 ?side2 f9.out).mono ?_
        (case side1=>exact qI_)
        (case side2=>exact qB_)
        rintro e k6 ⟨rfl,hi,hb,hk⟩
        refine⟨_,rfl,?_⟩
        replace a:=am_ (Kd.R_mono (Kd.R_keep (IsS130.apart (show IsS130 s _ g s0_0 a0 a1 from qI_) (qR_ a) (by decide)) hk (fun _ h=>h.2)) (fun _ h=>h.1));replace m:=am_ (KeepBut.blk hk (g' :=J) (o:= .cells #[.int .i64 0,.slice none 0 0] 29 (0,0)) (qk_ m) g0.out (by simp));replace d:=am_ (KeepBut.blk hk (g' :=C) (o:= .cells #[.int .i64 D,.slice e0 q.length e1] 29 (0,0)) (qk_ d) e4.out (by simp));replace HI0:=am_ (hi);replace HK:=am_ (KeepBut.trans (qK_) hk (.inl rfl));replace HB:=am_ (hb);clear hb hk hi
        refine hK.out _ _ ⟨bl_ d 0,bl_ d 1⟩ (fun hHeld=> ?_)
        clear hK K
        refine nm_ 56 ?_
        refine two_ (i:=4) (j:=8) (Ni:=some 57) (Nj:=some 11) (bm 11 31) #[true,true,true,true,false,false,false,false,true,false,false] rfl rfl rfl rfl (two_of HT_.out (by kernel_rfl)) (by decide) (by decide) (fun K hK=> ?_) (fun K hK=> ?_)
        ·skip
         refine gs_ Try.func38 #[.agg #[.int .i64 D,.slice e0 q.length e1],.agg #[.int .i64 a5,.int .i64 a6]] ?_
         with_reducible refine(spec_WebAdd.calls kj12 D _ _ q a5 a6 d7 d9 false _ ?side1 ?side2 e5.out).mono ?_
         (case side1=>exact qD_ (Kd.R_reads' a.out).2.2)
         (case side2=>exact(Kd.R_reads' a.out).2.1)
         rintro e i3 ⟨d4,rfl,ho0,hb⟩
         refine⟨_,rfl,?_⟩
         refine dn7_ (ke_ a ho0 hb) (am_ (Kd.R_lower (Kd.R_new' ho0 (Kd.R_lt (qR_ a))) (keep_size (w:=w) (g:=g) (row:=none) (qK_)))) (qbl_ m hb) (qbl_ d hb) (am_ (IsS130.below (qI_) hb)) (am_ (KeepBut.trans (qK_) (KeepBut.of_below hb g none) (.inl rfl))) (am_ (below_step (qB_) hb)) ?_;clear a m d HI0 HK HB;intro a Z m d HI0 HK HB;clear hb ho0
         refine hK.out _ _ ⟨bl_ d 0,bl_ d 1⟩ (fun hHeld=> ?_)
         clear hK K
         refine nm_ 57 ?_
         refine pz_ 5 52 11 63 ?_;refine pz_ 6 58 11 127 ?_;refine pz_ 7 59 11 255 ?_
         refine o1_ 8 (some 11) 11 511 (fun K hK=> ?_)
         refine box_step ?hg (N:=11) ?hd (cs:= #[.int .i64 0,.slice none 0 0]) (t:=29) ?hr ?_;(case hd=>rfl);(case hg=>rfl);(case hr=>first|(go_simp;done)|(go_simp;rfl))
         intro u hg i4 hbox hb
         refine dn16_ (kb_ a hb) (kb_ Z hb) (qbl_ m hb) (qbl_ d hb) (am_ (IsS130.below (qI_) hb)) (am_ (KeepBut.trans (qK_) (KeepBut.of_below hb g none) (.inl rfl))) (am_ (below_step (qB_) hb)) (am_ (hbox)) (am_ ((by rw[hg];exact(keep_size (w:=w) (g:=g) (row:=none) (qK_)):w.heap.size≤u))) (am_ ((Nat.le_trans HW0.out (by rw[hg];exact(keep_size (w:=w) (g:=g) (row:=none) (qK_)):w.heap.size≤u):s.heap.size≤u))) ((qn_ m hg).1) ((qn_ m hg).2) ((qn_ d hg).1) ((qn_ d hg).2) (am_ ((by rw[hg];exact Nat.ne_of_lt (IsS130.lt (show IsS130 s _ g s0_0 a7 a8 from qI_)):g≠u))) (am_ ((by rw[hg];exact Nat.ne_of_gt (IsS130.lt (show IsS130 s _ g s0_0 a7 a8 from qI_)):u≠g))) ?_;clear a Z m d HI0 HK HB;intro a Z m d HI0 HK HB E L T d5 a9 U b0 M d8;clear hb hbox hg
         refine hK.out _ _ ⟨bl_ d 0,bl_ d 1⟩ (fun hHeld=> ?_)
         clear hK K
         refine nm_ 11 ?_
         exact norm_ (by simp only[putAll,Act.put,sA_,sB_,sC_]) (hCont (d4,u) _ ⟨hHeld,(by(with_reducible repeat(first|apply Kd.R_alloc|apply Kd.R_drewN|apply Kd.R_drew));exact Kd.R_mono Z.out (fun _ hk=>hk.2)),(by(with_reducible repeat(first|apply Kd.R_alloc|apply Kd.R_drewN|apply Kd.R_drew));exact Kd.R_mono a.out (fun _ hk=>hk.2)),(qk_ m),(qk_ d),(qk_ E),L.out,T.out,M.out,d8.out,d5.out,a9.out,U.out,b0.out,(qI_),(qK_),(qB_)⟩)
        skip
        refine box_step ?hg (N:=11) ?hd (cs:= #[.int .i64 0,.slice none 0 0]) (t:=29) ?hr ?_;(case hd=>rfl);(case hg=>rfl);(case hr=>first|(go_simp;done)|(go_simp;rfl))
        intro u hg i3 hbox hb
        refine dn15_ (kb_ a hb) (qbl_ m hb) (qbl_ d hb) (am_ (IsS130.below (qI_) hb)) (am_ (KeepBut.trans (qK_) (KeepBut.of_below hb g none) (.inl rfl))) (am_ (below_step (qB_) hb)) (am_ (hbox)) (am_ ((by rw[hg];exact(keep_size (w:=w) (g:=g) (row:=none) (qK_)):w.heap.size≤u))) (am_ ((Nat.le_trans HW0.out (by rw[hg];exact(keep_size (w:=w) (g:=g) (row:=none) (qK_)):w.heap.size≤u):s.heap.size≤u))) ((qn_ m hg).1) ((qn_ m hg).2) ((qn_ d hg).1) ((qn_ d hg).2) (am_ ((by rw[hg];exact Nat.ne_of_lt (IsS130.lt (show IsS130 s _ g s0_0 a7 a8 from qI_)):g≠u))) (am_ ((by rw[hg];exact Nat.ne_of_gt (IsS130.lt (show IsS130 s _ g s0_0 a7 a8 from qI_)):u≠g))) ?_;clear a m d HI0 HK HB;intro a m d HI0 HK HB E L T d5 a9 U b0 M d8;clear hb hbox hg
        refine hK.out _ _ ⟨bl_ d 0,bl_ d 1⟩ (fun hHeld=> ?_)
        clear hK K
        refine nm_ 11 ?_
        refine o1_ 4 (some 57) 11 287 (fun K hK=> ?_)
        refine gs_ Try.func38 #[.agg #[.int .i64 D,.slice e0 q.length e1],.agg #[.int .i64 a5,.int .i64 a6]] ?_
        with_reducible refine(spec_WebAdd.calls kj12 D _ _ q a5 a6 d7 d9 false _ ?side1 ?side2 e5.out).mono ?_
        (case side1=>exact qD_ (Kd.R_reads' a.out).2.2)
        (case side2=>exact(Kd.R_reads' a.out).2.1)
        rintro e i4 ⟨d4,rfl,ho0,hb⟩
        refine⟨_,rfl,?_⟩
        refine dn8_ (ke_ a ho0 hb) (am_ (Kd.R_lower (Kd.R_new' ho0 (Kd.R_lt (qR_ a))) (keep_size (w:=w) (g:=g) (row:=none) (qK_)))) (qbl_ m hb) (qbl_ d hb) (am_ (IsS130.below (qI_) hb)) (qbl_ E hb) (am_ (KeepBut.trans (qK_) (KeepBut.of_below hb g none) (.inl rfl))) (am_ (below_step (qB_) hb)) ?_;clear a m d HI0 E HK HB;intro a Z m d HI0 E HK HB;clear hb ho0
        refine hK.out _ _ ⟨bl_ d 0,bl_ d 1⟩ (fun hHeld=> ?_)
        clear hK K
        refine nm_ 57 ?_
        refine pz_ 5 52 11 319 ?_;refine pz_ 6 58 11 383 ?_;refine pz_ 7 59 11 511 ?_
        exact norm_ (by simp only[putAll,Act.put,sA_,sB_,sC_]) (hCont (d4,u) _ ⟨hHeld,(by(with_reducible repeat(first|apply Kd.R_alloc|apply Kd.R_drewN|apply Kd.R_drew));exact Kd.R_mono Z.out (fun _ hk=>hk.2)),(by(with_reducible repeat(first|apply Kd.R_alloc|apply Kd.R_drewN|apply Kd.R_drew));exact Kd.R_mono a.out (fun _ hk=>hk.2)),(qk_ m),(qk_ d),(qk_ E),L.out,T.out,M.out,d8.out,d5.out,a9.out,U.out,b0.out,(qI_),(qK_),(qB_)⟩)
       skip
       refine box_step ?hg (N:=11) ?hd (cs:= #[.int .i64 0,.slice none 0 0]) (t:=29) ?hr ?_;(case hd=>rfl);(case hg=>rfl);(case hr=>first|(go_simp;done)|(go_simp;rfl))
       intro u hg k6 hbox hb
       refine dn15_ (kb_ a hb) (qbl_ m hb) (qbl_ d hb) (am_ (IsS130.below (qI_) hb)) (am_ (KeepBut.trans (qK_) (KeepBut.of_below hb g none) (.inl rfl))) (am_ (below_step (qB_) hb)) (am_ (hbox)) (am_ ((by rw[hg];exact(keep_size (w:=w) (g:=g) (row:=none) (qK_)):w.heap.size≤u))) (am_ ((Nat.le_trans HW0.out (by rw[hg];exact(keep_size (w:=w) (g:=g) (row:=none) (qK_)):w.heap.size≤u):s.heap.size≤u))) ((qn_ m hg).1) ((qn_ m hg).2) ((qn_ d hg).1) ((qn_ d hg).2) (am_ ((by rw[hg];exact Nat.ne_of_lt (IsS130.lt (show IsS130 s _ g s0_0 a0 a1 from qI_)):g≠u))) (am_ ((by rw[hg];exact Nat.ne_of_gt (IsS130.lt (show IsS130 s _ g s0_0 a0 a1 from qI_)):u≠g))) ?_;clear a m d HI0 HK HB;intro a m d HI0 HK HB E L T d5 a9 U b0 M d8;clear hb hbox hg
       refine hK.out _ _ ⟨bl_ d 0,bl_ d 1⟩ (fun hHeld=> ?_)
       clear hK K
       refine nm_ 11 ?_
       refine o1_ 3 (some 56) 11 271 (fun K hK=> ?_)
       refine gs_ Try.func100 #[.pointer (some ⟨g,0,none⟩),.int .i64 d6] ?_
       with_reducible refine(spec_l05Edge.calls g s0_0 a0 a1 d6 a5 a6 a7 a8 s _ ?side1 ?side2 f9.out).mono ?_
       (case side1=>exact qI_)
       (case side2=>exact qB_)
       rintro e i3 ⟨rfl,hi,hb,hk⟩
       refine⟨_,rfl,?_⟩
       replace a:=am_ (Kd.R_mono (Kd.R_keep (IsS130.apart (show IsS130 s _ g s0_0 a0 a1 from qI_) (qR_ a) (by decide)) hk (fun _ h=>h.2)) (fun _ h=>h.1));replace m:=am_ (KeepBut.blk hk (g' :=J) (o:= .cells #[.int .i64 0,.slice none 0 0] 29 (0,0)) (qk_ m) g0.out (by simp));replace d:=am_ (KeepBut.blk hk (g' :=C) (o:= .cells #[.int .i64 D,.slice e0 q.length e1] 29 (0,0)) (qk_ d) e4.out (by simp));replace E:=am_ (KeepBut.blk hk (g' :=u) (o:= .cells #[.int .i64 0,.slice none 0 0] 29 (0,0)) (qk_ E) d8.out (by simp));replace HI0:=am_ (hi);replace HK:=am_ (KeepBut.trans (qK_) hk (.inl rfl));replace HB:=am_ (hb);clear hb hk hi
       refine hK.out _ _ ⟨bl_ d 0,bl_ d 1⟩ (fun hHeld=> ?_)
       clear hK K
       refine nm_ 56 ?_
       refine o1_ 4 (some 57) 11 287 (fun K hK=> ?_)
       refine gs_ Try.func38 #[.agg #[.int .i64 D,.slice e0 q.length e1],.agg #[.int .i64 a5,.int .i64 a6]] ?_
       with_reducible refine(spec_WebAdd.calls kj12 D _ _ q a5 a6 d7 d9 false _ ?side1 ?side2 e5.out).mono ?_
       (case side1=>exact qD_ (Kd.R_reads' a.out).2.2)
       (case side2=>exact(Kd.R_reads' a.out).2.1)
       rintro e i4 ⟨d4,rfl,ho0,hb⟩
       refine⟨_,rfl,?_⟩
       refine dn8_ (ke_ a ho0 hb) (am_ (Kd.R_lower (Kd.R_new' ho0 (Kd.R_lt (qR_ a))) (keep_size (w:=w) (g:=g) (row:=none) (qK_)))) (qbl_ m hb) (qbl_ d hb) (am_ (IsS130.below (qI_) hb)) (qbl_ E hb) (am_ (KeepBut.trans (qK_) (KeepBut.of_below hb g none) (.inl rfl))) (am_ (below_step (qB_) hb)) ?_;clear a m d HI0 E HK HB;intro a Z m d HI0 E HK HB;clear hb ho0
       refine hK.out _ _ ⟨bl_ d 0,bl_ d 1⟩ (fun hHeld=> ?_)
       clear hK K
       refine nm_ 57 ?_
       refine pz_ 5 52 11 319 ?_;refine pz_ 6 58 11 383 ?_;refine pz_ 7 59 11 511 ?_
       exact norm_ (by simp only[putAll,Act.put,sA_,sB_,sC_]) (hCont (d4,u) _ ⟨hHeld,(by(with_reducible repeat(first|apply Kd.R_alloc|apply Kd.R_drewN|apply Kd.R_drew));exact Kd.R_mono Z.out (fun _ hk=>hk.2)),(by(with_reducible repeat(first|apply Kd.R_alloc|apply Kd.R_drewN|apply Kd.R_drew));exact Kd.R_mono a.out (fun _ hk=>hk.2)),(qk_ m),(qk_ d),(qk_ E),L.out,T.out,M.out,d8.out,d5.out,a9.out,U.out,b0.out,(qI_),(qK_),(qB_)⟩)
      rintro⟨d4,u⟩ V ⟨hS_,b4,b5,b6,b7,b8,b9,c0,c1,c2,c3,h10_,h11_,h12_,h13_,h14_,h15_⟩
      have c4:Aside0 (Kd.R k72 72 V w.heap.size (fun k_=>some k_≠(.slice e0 q.length e1:Value).ownBlock) d4 d9):=⟨b4⟩
      have c5:Aside0 (Kd.R k72 72 V w.heap.size (fun k_=>some k_≠(d4:Value).ownBlock) (.slice e0 q.length e1) q):=⟨b5⟩
      have c6:Aside0 (V.heap[J]? =some (.cells #[.int .i64 0,.slice none 0 0] 29 (0,0))):=⟨b6⟩
      have c7:Aside0 (V.heap[C]? =some (.cells #[.int .i64 D,.slice e0 q.length e1] 29 (0,0))):=⟨b7⟩
      have c8:Aside0 (V.heap[u]? =some (.cells #[.int .i64 0,.slice none 0 0] 29 (0,0))):=⟨b8⟩
      have c9:Aside0 (w.heap.size≤u):=⟨b9⟩
      have d0:Aside0 (s.heap.size≤u):=⟨c0⟩
      have d1:Aside0 (g≠u):=⟨c1⟩
      have d2:Aside0 (u≠g):=⟨c2⟩
      have d3:Aside0 (J≠u):=⟨c3⟩
      have n10_:Aside0 (u≠J):=⟨h10_⟩
      have n11_:Aside0 (C≠u):=⟨h11_⟩
      have n12_:Aside0 (u≠C):=⟨h12_⟩
      have n13_:Aside0 (IsS130 s V g s0_0 a7 a8):=⟨h13_⟩
      have n14_:Aside0 (KeepBut w V g none):=⟨h14_⟩
      have n15_:Aside0 (Below s.heap.size s V):=⟨h15_⟩
      clear a m d HI0 HK HB b4 b5 b6 b7 b8 b9 c0 c1 c2 c3 h10_ h11_ h12_ h13_ h14_ h15_;have Z:=c4;have a:=c5;have m:=c6;have d:=c7;have E:=c8;have L:=c9;have T:=d0;have M:=d1;have d8:=d2;have d5:=d3;have a9:=n10_;have U:=n11_;have b0:=n12_;have HI0:=n13_;have HK:=n14_;have HB:=n15_;clear c4 c5 c6 c7 c8 c9 d0 d1 d2 d3 n10_ n11_ n12_ n13_ n14_ n15_
      have hHeld:V.cell? ⟨C,0,none⟩=some (.int .i64 D)∧V.cell? ⟨C,1,none⟩=some (.slice e0 q.length e1):=hS_
      obtain⟨u0,u1,n9⟩:=Kd.R_slice Z.out
      (first|subst n9|(injection n9 with b1 e8 b2;have e9:=b1.symm;have f4:=b2.symm;clear b1 e8 b2;subst e9;subst f4))
      refine norm_ (a' := ?_) ?_ ?_
      rotate_left
      ·simp only[putAll,Act.put,sA_,sB_,sC_]
       rfl
      refine o1_ 9 none 11 1023 (fun K hK=> ?_)
      have o0:V.cell? ⟨u,0,none⟩=some (.int .i64 0):=bl_ E 0
      have k7:=blk_frozen E.out 0
      have A6:=d5.out;have A7:=U.out;have A8:=a9.out;have A9:=b0.out
      have o1:V.cell? ⟨u,1,none⟩=some (.slice none 0 0):=bl_ E 1
      have k8:=blk_frozen E.out 1
      have B0:=d5.out;have B2:=U.out;have B7:=a9.out;have C0:=b0.out
      refine skip_ (w1:= ?_) (by rfl) rfl ?_ ?_
      rotate_left
      ·go_simp
       rfl
      refine hK.out _ _ ⟨((cell_far (p:=⟨u,_,none⟩) U.out _).trans (((cell_far (p:=⟨u,_,none⟩) U.out _).trans (hHeld.1)))),((cell_far (p:=⟨u,_,none⟩) U.out _).trans (((cell_far (p:=⟨u,_,none⟩) U.out _).trans (hHeld.2))))⟩ (fun hHeld=> ?_)
      clear hK K;refine pz_ 10 12 11 2047 ?_
      refine done_ (done_of HT_.out (by kernel_rfl)) ?_
      try go_wp2
      go_roundg kj12
      case measure=>have:=HK1.out;have:=g9.out;omega
      case rel=>exact⟨(wrap64 (Y + 1)),(a7),(a8),(D),(q),(.slice e0 q.length e1),qe_,H',⟨by have:=HK1.out;have:=g9.out;omega⟩,⟨by(with_reducible repeat(first|apply Kd.R_alloc|apply Kd.R_drewN|apply Kd.R_drew));exact Kd.R_mono (Kd.R_far (p:=⟨u,1,none⟩) (Kd.R_far (p:=⟨u,0,none⟩) (Kd.R_types a.out E.out (by decide)) (fun _ hk=>hk.2) (.int .i64 d7)) (fun _ hk=>hk.2) (.slice u0 d9.length u1)) (fun _ hk=>trivial)⟩,⟨qf_ m⟩,⟨qf_ d⟩,⟨qI_⟩,⟨qK_⟩,⟨qB_⟩⟩
     have H' :=am_ H;clear H
     obtain⟨e2,e3,u2⟩:=Kd.R_slice a.out
     subst u2
     try go_wp2
     replace a:=rd_ a;replace m:=bd_ m;replace d:=bd_ d;replace HI0:=am_ (IsS130.drew HI0.out);replace HK:=am_ (keep_drew HK.out);replace HB:=hd_ HB
     refine start_ (n:=11) (S:=fun w' =>w'.cell? ⟨C,0,none⟩=some (.int .i64 D)∧w'.cell? ⟨C,1,none⟩=some (.slice e2 q.length e3)) (ds:=[]) (bm 11 0) (by kernel_rfl) rfl (by kernel_rfl) ⟨bl_ d 0,bl_ d 1⟩ (fun hHeld=> ?_);refine with_tabW spec_l08Web.tab8 spec_l08Web.bits8 (fun HT_ HW_=> ?_)
     generalize wc.drew=s1 at a m d HI0 HK HB hHeld ⊢
     refine pz_ 1 54 11 2 ?_;refine pz_ 2 55 11 6 ?_;refine tz2_ 0 53 11 7 ?_
     refine join_ (σ :=Value × Nat) 2 #[true,true,true,true,true,true,true,true,true,false,false] (fun s_=>[(56,.agg #[.int .i64 a5,.int .i64 a6]),(57,.tuple #[.agg #[.int .i64 d7,s_.1],.bool true]),(11,.pointer (some ⟨s_.2,0,none⟩)),(52,.tuple #[.agg #[.int .i64 d7,s_.1],.bool true]),(58,.agg #[.int .i64 d7,s_.1]),(59,.bool true)]) (fun s_ w' =>(w'.cell? ⟨C,0,none⟩=some (.int .i64 D)∧w'.cell? ⟨C,1,none⟩=some (.slice e2 q.length e3))∧(Kd.R k72 72 w' w.heap.size (fun k_=>some k_≠(.slice e2 q.length e3:Value).ownBlock) s_.1 d9)∧(Kd.R k72 72 w' w.heap.size (fun k_=>some k_≠(s_.1:Value).ownBlock) (.slice e2 q.length e3) q)∧(w'.heap[J]? =some (.cells #[.int .i64 0,.slice none 0 0] 29 (0,0)))∧(w'.heap[C]? =some (.cells #[.int .i64 D,.slice e2 q.length e3] 29 (0,0)))∧(w'.heap[s_.2]? =some (.cells #[.int .i64 0,.slice none 0 0] 29 (0,0)))∧(w.heap.size≤s_.2)∧(s.heap.size≤s_.2)∧(g≠s_.2)∧(s_.2≠g)∧(J≠s_.2)∧(s_.2≠J)∧(C≠s_.2)∧(s_.2≠C)∧(IsS130 s w' g s0_0 a7 a8)∧(KeepBut w w' g none)∧(Below s.heap.size s w')) ?_ ?_
     rotate_left
     ·intro hCont
      refine two_ (i:=3) (j:=8) (Ni:=some 56) (Nj:=some 11) (bm 11 15) #[true,true,true,false,false,false,false,false,true,false,false] rfl rfl rfl rfl (two_of HT_.out (by kernel_rfl)) (by decide) (by decide) (fun K hK=> ?_) (fun K hK=> ?_)
      ·skip
       refine gs_ Try.func100 #[.pointer (some ⟨g,0,none⟩),.int .i64 d6] ?_
       with_reducible refine(spec_l05Edge.calls g s0_0 a0 a1 d6 a5 a6 a7 a8 s _ ?side1 ?side2 f9.out).mono ?_
       (case side1=>exact qI_)
       (case side2=>exact qB_)
       rintro e k9 ⟨rfl,hi,hb,hk⟩
       refine⟨_,rfl,?_⟩
       replace a:=am_ (Kd.R_mono (Kd.R_keep (IsS130.apart (show IsS130 s _ g s0_0 a0 a1 from qI_) (qR_ a) (by decide)) hk (fun _ h=>h.2)) (fun _ h=>h.1));replace m:=am_ (KeepBut.blk hk (g' :=J) (o:= .cells #[.int .i64 0,.slice none 0 0] 29 (0,0)) (qk_ m) g0.out (by simp));replace d:=am_ (KeepBut.blk hk (g' :=C) (o:= .cells #[.int .i64 D,.slice e2 q.length e3] 29 (0,0)) (qk_ d) e4.out (by simp));replace HI0:=am_ (hi);replace HK:=am_ (KeepBut.trans (qK_) hk (.inl rfl));replace HB:=am_ (hb);clear hb hk hi
       refine hK.out _ _ ⟨bl_ d 0,bl_ d 1⟩ (fun hHeld=> ?_)
       clear hK K
       refine nm_ 56 ?_
       refine two_ (i:=4) (j:=8) (Ni:=some 57) (Nj:=some 11) (bm 11 31) #[true,true,true,true,false,false,false,false,true,false,false] rfl rfl rfl rfl (two_of HT_.out (by kernel_rfl)) (by decide) (by decide) (fun K hK=> ?_) (fun K hK=> ?_)
       ·skip
        refine gs_ Try.func38 #[.agg #[.int .i64 D,.slice e2 q.length e3],.agg #[.int .i64 a5,.int .i64 a6]] ?_
        with_reducible refine(spec_WebAdd.calls kj12 D _ _ q a5 a6 d7 d9 true _ ?side1 ?side2 e5.out).mono ?_
        (case side1=>exact qD_ (Kd.R_reads' a.out).2.2)
        (case side2=>exact(Kd.R_reads' a.out).2.1)
        rintro e i5 ⟨d4,rfl,ho0,hb⟩
        refine⟨_,rfl,?_⟩
        refine dn7_ (ke_ a ho0 hb) (am_ (Kd.R_lower (Kd.R_new' ho0 (Kd.R_lt (qR_ a))) (keep_size (w:=w) (g:=g) (row:=none) (qK_)))) (qbl_ m hb) (qbl_ d hb) (am_ (IsS130.below (qI_) hb)) (am_ (KeepBut.trans (qK_) (KeepBut.of_below hb g none) (.inl rfl))) (am_ (below_step (qB_) hb)) ?_;clear a m d HI0 HK HB;intro a Z m d HI0 HK HB;clear hb ho0
        refine hK.out _ _ ⟨bl_ d 0,bl_ d 1⟩ (fun hHeld=> ?_)
        clear hK K
        refine nm_ 57 ?_
        refine pz_ 5 52 11 63 ?_;refine pz_ 6 58 11 127 ?_;refine pz_ 7 59 11 255 ?_
        refine o1_ 8 (some 11) 11 511 (fun K hK=> ?_)
        refine box_step ?hg (N:=11) ?hd (cs:= #[.int .i64 0,.slice none 0 0]) (t:=29) ?hr ?_;(case hd=>rfl);(case hg=>rfl);(case hr=>first|(go_simp;done)|(go_simp;rfl))
        intro u hg i6 hbox hb
        refine dn16_ (kb_ a hb) (kb_ Z hb) (qbl_ m hb) (qbl_ d hb) (am_ (IsS130.below (qI_) hb)) (am_ (KeepBut.trans (qK_) (KeepBut.of_below hb g none) (.inl rfl))) (am_ (below_step (qB_) hb)) (am_ (hbox)) (am_ ((by rw[hg];exact(keep_size (w:=w) (g:=g) (row:=none) (qK_)):w.heap.size≤u))) (am_ ((Nat.le_trans HW0.out (by rw[hg];exact(keep_size (w:=w) (g:=g) (row:=none) (qK_)):w.heap.size≤u):s.heap.size≤u))) ((qn_ m hg).1) ((qn_ m hg).2) ((qn_ d hg).1) ((qn_ d hg).2) (am_ ((by rw[hg];exact Nat.ne_of_lt (IsS130.lt (show IsS130 s _ g s0_0 a7 a8 from qI_)):g≠u))) (am_ ((by rw[hg];exact Nat.ne_of_gt (IsS130.lt (show IsS130 s _ g s0_0 a7 a8 from qI_)):u≠g))) ?_;clear a Z m d HI0 HK HB;intro a Z m d HI0 HK HB E L T d5 a9 U b0 M d8;clear hb hbox hg
        refine hK.out _ _ ⟨bl_ d 0,bl_ d 1⟩ (fun hHeld=> ?_)
        clear hK K
        refine nm_ 11 ?_
        exact norm_ (by simp only[putAll,Act.put,sA_,sB_,sC_]) (hCont (d4,u) _ ⟨hHeld,(by(with_reducible repeat(first|apply Kd.R_alloc|apply Kd.R_drewN|apply Kd.R_drew));exact Kd.R_mono Z.out (fun _ hk=>hk.2)),(by(with_reducible repeat(first|apply Kd.R_alloc|apply Kd.R_drewN|apply Kd.R_drew));exact Kd.R_mono a.out (fun _ hk=>hk.2)),(qk_ m),(qk_ d),(qk_ E),L.out,T.out,M.out,d8.out,d5.out,a9.out,U.out,b0.out,(qI_),(qK_),(qB_)⟩)
       skip
       refine box_step ?hg (N:=11) ?hd (cs:= #[.int .i64 0,.slice none 0 0]) (t:=29) ?hr ?_;(case hd=>rfl);(case hg=>rfl);(case hr=>first|(go_simp;done)|(go_simp;rfl))
       intro u hg i5 hbox hb
       refine dn15_ (kb_ a hb) (qbl_ m hb) (qbl_ d hb) (am_ (IsS130.below (qI_) hb)) (am_ (KeepBut.trans (qK_) (KeepBut.of_below hb g none) (.inl rfl))) (am_ (below_step (qB_) hb)) (am_ (hbox)) (am_ ((by rw[hg];exact(keep_size (w:=w) (g:=g) (row:=none) (qK_)):w.heap.size≤u))) (am_ ((Nat.le_trans HW0.out (by rw[hg];exact(keep_size (w:=w) (g:=g) (row:=none) (qK_)):w.heap.size≤u):s.heap.size≤u))) ((qn_ m hg).1) ((qn_ m hg).2) ((qn_ d hg).1) ((qn_ d hg).2) (am_ ((by rw[hg];exact Nat.ne_of_lt (IsS130.lt (show IsS130 s _ g s0_0 a7 a8 from qI_)):g≠u))) (am_ ((by rw[hg];exact Nat.ne_of_gt (IsS130.lt (show IsS130 s _ g s0_0 a7 a8 from qI_)):u≠g))) ?_;clear a m d HI0 HK HB;intro a m d HI0 HK HB E L T d5 a9 U b0 M d8;clear hb hbox hg
       refine hK.out _ _ ⟨bl_ d 0,bl_ d 1⟩ (fun hHeld=> ?_)
       clear hK K
       refine nm_ 11 ?_
       refine o1_ 4 (some 57) 11 287 (fun K hK=> ?_)
       refine gs_ Try.func38 #[.agg #[.int .i64 D,.slice e2 q.length e3],.agg #[.int .i64 a5,.int .i64 a6]] ?_
       with_reducible refine(spec_WebAdd.calls kj12 D _ _ q a5 a6 d7 d9 true _ ?side1 ?side2 e5.out).mono ?_
       (case side1=>exact qD_ (Kd.R_reads' a.out).2.2)
       (case side2=>exact(Kd.R_reads' a.out).2.1)
       rintro e i6 ⟨d4,rfl,ho0,hb⟩
       refine⟨_,rfl,?_⟩
       refine dn8_ (ke_ a ho0 hb) (am_ (Kd.R_lower (Kd.R_new' ho0 (Kd.R_lt (qR_ a))) (keep_size (w:=w) (g:=g) (row:=none) (qK_)))) (qbl_ m hb) (qbl_ d hb) (am_ (IsS130.below (qI_) hb)) (qbl_ E hb) (am_ (KeepBut.trans (qK_) (KeepBut.of_below hb g none) (.inl rfl))) (am_ (below_step (qB_) hb)) ?_;clear a m d HI0 E HK HB;intro a Z m d HI0 E HK HB;clear hb ho0
       refine hK.out _ _ ⟨bl_ d 0,bl_ d 1⟩ (fun hHeld=> ?_)
       clear hK K
       refine nm_ 57 ?_
       refine pz_ 5 52 11 319 ?_;refine pz_ 6 58 11 383 ?_;refine pz_ 7 59 11 511 ?_
       exact norm_ (by simp only[putAll,Act.put,sA_,sB_,sC_]) (hCont (d4,u) _ ⟨hHeld,(by(with_reducible repeat(first|apply Kd.R_alloc|apply Kd.R_drewN|apply Kd.R_drew));exact Kd.R_mono Z.out (fun _ hk=>hk.2)),(by(with_reducible repeat(first|apply Kd.R_alloc|apply Kd.R_drewN|apply Kd.R_drew));exact Kd.R_mono a.out (fun _ hk=>hk.2)),(qk_ m),(qk_ d),(qk_ E),L.out,T.out,M.out,d8.out,d5.out,a9.out,U.out,b0.out,(qI_),(qK_),(qB_)⟩)
      skip
      refine box_step ?hg (N:=11) ?hd (cs:= #[.int .i64 0,.slice none 0 0]) (t:=29) ?hr ?_;(case hd=>rfl);(case hg=>rfl);(case hr=>first|(go_simp;done)|(go_simp;rfl))
      intro u hg k9 hbox hb
      refine dn15_ (kb_ a hb) (qbl_ m hb) (qbl_ d hb) (am_ (IsS130.below (qI_) hb)) (am_ (KeepBut.trans (qK_) (KeepBut.of_below hb g none) (.inl rfl))) (am_ (below_step (qB_) hb)) (am_ (hbox)) (am_ ((by rw[hg];exact(keep_size (w:=w) (g:=g) (row:=none) (qK_)):w.heap.size≤u))) (am_ ((Nat.le_trans HW0.out (by rw[hg];exact(keep_size (w:=w) (g:=g) (row:=none) (qK_)):w.heap.size≤u):s.heap.size≤u))) ((qn_ m hg).1) ((qn_ m hg).2) ((qn_ d hg).1) ((qn_ d hg).2) (am_ ((by rw[hg];exact Nat.ne_of_lt (IsS130.lt (show IsS130 s _ g s0_0 a0 a1 from qI_)):g≠u))) (am_ ((by rw[hg];exact Nat.ne_of_gt (IsS130.lt (show IsS130 s _ g s0_0 a0 a1 from qI_)):u≠g))) ?_;clear a m d HI0 HK HB;intro a m d HI0 HK HB E L T d5 a9 U b0 M d8;clear hb hbox hg
      refine hK.out _ _ ⟨bl_ d 0,bl_ d 1⟩ (fun hHeld=> ?_)
      clear hK K
      refine nm_ 11 ?_
      refine o1_ 3 (some 56) 11 271 (fun K hK=> ?_)
      refine gs_ Try.func100 #[.pointer (some ⟨g,0,none⟩),.int .i64 d6] ?_
      with_reducible refine(spec_l05Edge.calls g s0_0 a0 a1 d6 a5 a6 a7 a8 s _ ?side1 ?side2 f9.out).mono ?_
      (case side1=>exact qI_)
      (case side2=>exact qB_)
      rintro e i5 ⟨rfl,hi,hb,hk⟩
      refine⟨_,rfl,?_⟩
      replace a:=am_ (Kd.R_mono (Kd.R_keep (IsS130.apart (show IsS130 s _ g s0_0 a0 a1 from qI_) (qR_ a) (by decide)) hk (fun _ h=>h.2)) (fun _ h=>h.1));replace m:=am_ (KeepBut.blk hk (g' :=J) (o:= .cells #[.int .i64 0,.slice none 0 0] 29 (0,0)) (qk_ m) g0.out (by simp));replace d:=am_ (KeepBut.blk hk (g' :=C) (o:= .cells #[.int .i64 D,.slice e2 q.length e3] 29 (0,0)) (qk_ d) e4.out (by simp));replace E:=am_ (KeepBut.blk hk (g' :=u) (o:= .cells #[.int .i64 0,.slice none 0 0] 29 (0,0)) (qk_ E) d8.out (by simp));replace HI0:=am_ (hi);replace HK:=am_ (KeepBut.trans (qK_) hk (.inl rfl));replace HB:=am_ (hb);clear hb hk hi
      refine hK.out _ _ ⟨bl_ d 0,bl_ d 1⟩ (fun hHeld=> ?_)
      clear hK K
      refine nm_ 56 ?_
      refine o1_ 4 (some 57) 11 287 (fun K hK=> ?_)
      refine gs_ Try.func38 #[.agg #[.int .i64 D,.slice e2 q.length e3],.agg #[.int .i64 a5,.int .i64 a6]] ?_
      with_reducible refine(spec_WebAdd.calls kj12 D _ _ q a5 a6 d7 d9 true _ ?side1 ?side2 e5.out).mono ?_
      (case side1=>exact qD_ (Kd.R_reads' a.out).2.2)
      (case side2=>exact(Kd.R_reads' a.out).2.1)
      rintro e i6 ⟨d4,rfl,ho0,hb⟩
      refine⟨_,rfl,?_⟩
      refine dn8_ (ke_ a ho0 hb) (am_ (Kd.R_lower (Kd.R_new' ho0 (Kd.R_lt (qR_ a))) (keep_size (w:=w) (g:=g) (row:=none) (qK_)))) (qbl_ m hb) (qbl_ d hb) (am_ (IsS130.below (qI_) hb)) (qbl_ E hb) (am_ (KeepBut.trans (qK_) (KeepBut.of_below hb g none) (.inl rfl))) (am_ (below_step (qB_) hb)) ?_;clear a m d HI0 E HK HB;intro a Z m d HI0 E HK HB;clear hb ho0
      refine hK.out _ _ ⟨bl_ d 0,bl_ d 1⟩ (fun hHeld=> ?_)
      clear hK K
      refine nm_ 57 ?_
      refine pz_ 5 52 11 319 ?_;refine pz_ 6 58 11 383 ?_;refine pz_ 7 59 11 511 ?_
      exact norm_ (by simp only[putAll,Act.put,sA_,sB_,sC_]) (hCont (d4,u) _ ⟨hHeld,(by(with_reducible repeat(first|apply Kd.R_alloc|apply Kd.R_drewN|apply Kd.R_drew));exact Kd.R_mono Z.out (fun _ hk=>hk.2)),(by(with_reducible repeat(first|apply Kd.R_alloc|apply Kd.R_drewN|apply Kd.R_drew));exact Kd.R_mono a.out (fun _ hk=>hk.2)),(qk_ m),(qk_ d),(qk_ E),L.out,T.out,M.out,d8.out,d5.out,a9.out,U.out,b0.out,(qI_),(qK_),(qB_)⟩)
     rintro⟨d4,u⟩ X ⟨hS_,b4,b5,b6,b7,b8,b9,c0,c1,c2,c3,h10_,h11_,h12_,h13_,h14_,h15_⟩
     have c4:Aside0 (Kd.R k72 72 X w.heap.size (fun k_=>some k_≠(.slice e2 q.length e3:Value).ownBlock) d4 d9):=⟨b4⟩
     have c5:Aside0 (Kd.R k72 72 X w.heap.size (fun k_=>some k_≠(d4:Value).ownBlock) (.slice e2 q.length e3) q):=⟨b5⟩
     have c6:Aside0 (X.heap[J]? =some (.cells #[.int .i64 0,.slice none 0 0] 29 (0,0))):=⟨b6⟩
     have c7:Aside0 (X.heap[C]? =some (.cells #[.int .i64 D,.slice e2 q.length e3] 29 (0,0))):=⟨b7⟩
     have c8:Aside0 (X.heap[u]? =some (.cells #[.int .i64 0,.slice none 0 0] 29 (0,0))):=⟨b8⟩
     have c9:Aside0 (w.heap.size≤u):=⟨b9⟩
     have d0:Aside0 (s.heap.size≤u):=⟨c0⟩
     have d1:Aside0 (g≠u):=⟨c1⟩
     have d2:Aside0 (u≠g):=⟨c2⟩
     have d3:Aside0 (J≠u):=⟨c3⟩
     have n10_:Aside0 (u≠J):=⟨h10_⟩
     have n11_:Aside0 (C≠u):=⟨h11_⟩
     have n12_:Aside0 (u≠C):=⟨h12_⟩
     have n13_:Aside0 (IsS130 s X g s0_0 a7 a8):=⟨h13_⟩
     have n14_:Aside0 (KeepBut w X g none):=⟨h14_⟩
     have n15_:Aside0 (Below s.heap.size s X):=⟨h15_⟩
     clear a m d HI0 HK HB b4 b5 b6 b7 b8 b9 c0 c1 c2 c3 h10_ h11_ h12_ h13_ h14_ h15_;have Z:=c4;have a:=c5;have m:=c6;have d:=c7;have E:=c8;have L:=c9;have T:=d0;have M:=d1;have d8:=d2;have d5:=d3;have a9:=n10_;have U:=n11_;have b0:=n12_;have HI0:=n13_;have HK:=n14_;have HB:=n15_;clear c4 c5 c6 c7 c8 c9 d0 d1 d2 d3 n10_ n11_ n12_ n13_ n14_ n15_
     have hHeld:X.cell? ⟨C,0,none⟩=some (.int .i64 D)∧X.cell? ⟨C,1,none⟩=some (.slice e2 q.length e3):=hS_
     obtain⟨l4,l5,o2⟩:=Kd.R_slice Z.out
     (first|subst o2|(injection o2 with b1 e8 b2;have e9:=b1.symm;have f4:=b2.symm;clear b1 e8 b2;subst e9;subst f4))
     refine norm_ (a' := ?_) ?_ ?_
     rotate_left
     ·simp only[putAll,Act.put,sA_,sB_,sC_]
      rfl
     refine o1_ 9 none 11 1023 (fun K hK=> ?_)
     have o3:X.cell? ⟨u,0,none⟩=some (.int .i64 0):=bl_ E 0
     have l6:=blk_frozen E.out 0
     have C1:=d5.out;have C2:=U.out;have C3:=a9.out;have C4:=b0.out
     have o4:X.cell? ⟨u,1,none⟩=some (.slice none 0 0):=bl_ E 1
     have l7:=blk_frozen E.out 1
     have C5:=d5.out;have C6:=U.out;have C7:=a9.out;have C8:=b0.out
     refine skip_ (w1:= ?_) (by rfl) rfl ?_ ?_
     rotate_left
     ·go_simp
      rfl
     refine hK.out _ _ ⟨((cell_far (p:=⟨u,_,none⟩) U.out _).trans (((cell_far (p:=⟨u,_,none⟩) U.out _).trans (hHeld.1)))),((cell_far (p:=⟨u,_,none⟩) U.out _).trans (((cell_far (p:=⟨u,_,none⟩) U.out _).trans (hHeld.2))))⟩ (fun hHeld=> ?_)
     clear hK K;refine pz_ 10 12 11 2047 ?_
     refine done_ (done_of HT_.out (by kernel_rfl)) ?_
     obtain⟨C9,D0⟩:=nn_ a9;obtain⟨D1,D2⟩:=nn_ b0;obtain⟨D3,D4⟩:=nn_ d8
     obtain⟨D5,D6,D7,D8⟩:=bc2_ E
     obtain⟨D9,E0⟩:=nn_ g6;obtain⟨E1,E2⟩:=nn_ e4
     obtain⟨E3,E4,E5,E6⟩:=bc2_ d
     try go_wp2
     go_roundg kj12
     case measure=>have:=HK1.out;have:=g9.out;omega
     case rel=>exact⟨(wrap64 (Y + 1)),(a7),(a8),(d7),(d9),(.slice l4 d9.length l5),qe_,H',⟨by have:=HK1.out;have:=g9.out;omega⟩,⟨by(with_reducible repeat(first|apply Kd.R_alloc|apply Kd.R_drewN|apply Kd.R_drew));exact Kd.R_mono (Kd.R_far (p:=⟨C,1,none⟩) (Kd.R_far (p:=⟨C,0,none⟩) (Kd.R_far (p:=⟨u,1,none⟩) (Kd.R_far (p:=⟨u,0,none⟩) (Kd.R_types (Kd.R_types Z.out E.out (by decide)) d.out (by decide)) (fun _ hk=>hk.1.2) (.int .i64 d7)) (fun _ hk=>hk.1.2) (.slice l4 d9.length l5)) (fun _ hk=>hk.2) (.int .i64 d7)) (fun _ hk=>hk.2) (.slice l4 d9.length l5)) (fun _ hk=>trivial)⟩,⟨qf_ m⟩,⟨qp_ d⟩,⟨qI_⟩,⟨qK_⟩,⟨qB_⟩⟩
end Go.Proofs.Ytbkklafkoegdpaa.QFnTakes

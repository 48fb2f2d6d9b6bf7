import Derived.Test.YtbkklafkoegdpaaQFnTakesx28
namespace Go.Proofs.Ytbkklafkoegdpaa.QFnTakes
open Go.RowKit Go.Proofs.YtbkklafkoegdpaaW.PrintWords Go.Proofs.YtbkklafkoegdpaaW.PrintLast Go.Proofs.YtbkklafkoegdpaaW.PrintMore
set_option maxHeartbeats 8000000
set_option maxRecDepth 100000
set_option linter.unusedVariables false
set_option linter.unusedSimpArgs false
def spec_l08Size.f (l0:List Int):Option (Int):=if (wrap64 (12 + (wrap64 ((l0.length:Int) / 4))))>60 then (some 60) else (some (wrap64 (12 + (wrap64 ((l0.length:Int) / 4)))))
theorem spec_l08Size.calls (d:Option Addr) (g:Nat) (l0:List Int) (r:Int) (w:World) (hr0:Kd.C (Kd.int .u8) w d l0.length l0) (hc0:l0.length≤g) (h:spec_l08Size.f l0=some r):
  Calls Try.prog 131 #[.slice d l0.length g] w fun e w' =>e= .returned (.int .i64 r)∧Drawn0 w w' :=by
 have i:=am_ hr0
 have j:=am_ hc0
 clear hr0 hc0
 rw[spec_l08Size.f]at h;have H:=h;clear h
 refine jc_ H ?_ ?_<;>clear H<;>intro c H
 ·have a:decide (60<(wrap64 (12 + (wrap64 ((l0.length:Int) / 4)))))=true:=decide_eq_true c
  clear c
  obtain rfl:=oi_ H
  go_enter Try.func131,Try.ntmps131
  go_wp2
  go_ret
  exact⟨by first|rfl|(simp;done)|(simp [*];done),by repeat(first|exact Drawn0.refl _|apply Drawn0.step)⟩
 have a:decide (60<(wrap64 (12 + (wrap64 ((l0.length:Int) / 4)))))=false:=decide_eq_false c
 clear c
 obtain rfl:=oi_ H
 go_enter Try.func131,Try.ntmps131
 go_wp2
 go_ret
 exact⟨by first|rfl|(simp;done)|(simp [*];done),by repeat(first|exact Drawn0.refl _|apply Drawn0.step)⟩
def spec_l08Drawn.f (k:Nat) (s0_0:List Int) (s0_1:Int) (s0_2:Int) (l1:List Int):Option (Int × (List (S72)) × Int × Int):=(spec_l01Below.f s0_0 s0_1 s0_2 11).bind fun bt664=>((spec_l08Size.f l1).bind fun t667=>((spec_l01Below.f s0_0 bt664.2.1 bt664.2.2 t667).bind fun bt668=>((spec_l08Web.f k s0_0 bt668.2.1 bt668.2.2 (wrap64 (2 + bt664.1)) bt668.1).bind fun bt671=>(some (bt671.1,bt671.2.1,bt671.2.2.1,bt671.2.2.2)))))
theorem spec_l08Drawn.calls (k:Nat) (g:Nat) (s0_0:List Int) (s0_1:Int) (s0_2:Int) (z:Option Addr) (B:Nat) (l1:List Int) (D:Int) (E:List (S72)) (F:Int) (G:Int) (c w:World) (hI:IsS130 c w g s0_0 s0_1 s0_2) (hB:Below c.heap.size c w) (hr1:Kd.C (Kd.int .u8) w z l1.length l1) (hc1:l1.length≤B) (I:∀ ad,z=some ad→0<l1.length→ad.block≠g) (h:spec_l08Drawn.f k s0_0 s0_1 s0_2 l1=some (D,E,F,G)):
  Calls Try.prog 97 #[.pointer (some ⟨g,0,none⟩),.slice z l1.length B] w fun e w' =>∃ x:Value,e= .returned (.agg #[.int .i64 D,x])∧Kd.R k72 72 w' w.heap.size (fun _=>True) x E∧IsS130 c w' g s0_0 F G∧Below c.heap.size c w' ∧KeepBut w w' g none:=by
 have hu29:=Try.underlying29
 have a2:=am_ hr1
 have a3:=am_ hc1
 clear hr1 hc1
 have HI0:=am_ hI
 have HK:=am_ (KeepBut.refl w g none)
 have HL:=am_ hB.size
 clear hI
 have HW0:=am_ hB.size
 have HB:=am_ hB
 clear hB
 have H:((spec_l01Below.f s0_0 s0_1 s0_2 11).bind fun J=>((spec_l08Size.f l1).bind fun y=>((spec_l01Below.f s0_0 J.2.1 J.2.2 y).bind fun L=>((spec_l08Web.f k s0_0 L.2.1 L.2.2 (wrap64 (2 + J.1)) L.1).bind fun A=>(some (A.1,A.2.1,A.2.2.1,A.2.2.2))))))=some (D,E,F,G):=h
 clear h
 obtain⟨⟨M,N,O⟩,a4,H⟩:=bs_ H;dsimp only at H
 obtain⟨y,a5,H⟩:=bs_ H
 obtain⟨⟨T,X,Y⟩,a6,H⟩:=bs_ H;dsimp only at H
 obtain⟨⟨U,V,a7,a8⟩,a9,H⟩:=bs_ H;dsimp only at H
 simp only[Option.some.injEq,Prod.mk.injEq]at H
 obtain⟨rfl,rfl,rfl,rfl⟩:=H
 go_enter Try.func97,Try.ntmps97
 go_wp2_with (first|((with_reducible refine gd_ 4 ?_);refine bx_ 4 (cs:= #[.int .i64 0,.slice none 0 0]) (t:=29) ?_;intro i hg b2 hbox hb;have j:=am_ (IsS130.below (qI_) hb);have l:=am_ (KeepBut.trans (qK_) (KeepBut.of_below hb g none) (.inl rfl));have m:=am_ (below_step (qB_) hb);have n:=am_ (hbox);have d:=am_ ((by rw[hg];exact(keep_size (w:=w) (g:=g) (row:=none) (qK_)):w.heap.size≤i));have q:=am_ ((Nat.le_trans HW0.out (by rw[hg];exact(keep_size (w:=w) (g:=g) (row:=none) (qK_)):w.heap.size≤i):c.heap.size≤i));have s:=am_ ((by rw[hg];exact Nat.ne_of_lt (IsS130.lt (show IsS130 c _ g s0_0 s0_1 s0_2 from qI_)):g≠i));have u:=am_ ((by rw[hg];exact Nat.ne_of_gt (IsS130.lt (show IsS130 c _ g s0_0 s0_1 s0_2 from qI_)):i≠g));clear HI0 HK HB;have HI0:=j;have HK:=l;have HB:=m;have a:=n;clear j l m n hb hbox hg)|((with_reducible refine gc_ 99 ?_);refine gl_ (some 7) Try.func99 #[.pointer (some ⟨g,0,none⟩),.int .i64 11] ?_;(with_reducible refine(spec_l01Below.calls g s0_0 s0_1 s0_2 11 M N O c _ ?side1 ?side2 a4.out).mono ?_);(case side1=>exact qI_);(case side2=>exact qB_);rintro e v ⟨rfl,hi,hb,hk⟩;refine⟨_,rfl,?_⟩;replace a:=am_ (KeepBut.blk hk (g' :=i) (o:= .cells #[.int .i64 0,.slice none 0 0] 29 (0,0)) (qk_ a) u.out (by simp));replace HI0:=am_ (hi);replace HK:=am_ (KeepBut.trans (qK_) hk (.inl rfl));replace HB:=am_ (hb);clear hb hk hi)|((with_reducible refine gc_ 131 ?_);refine gl_ (some 13) Try.func131 #[.slice z l1.length B] ?_;(with_reducible refine(spec_l08Size.calls _ _ l1 y _ ?_ ?_ a5.out).mono ?_);exact Kd.C_keep 0 a2.out (qK_) I;exact a3.out;rintro e w' ⟨rfl,⟨nd,rfl⟩⟩;refine⟨_,rfl,?_⟩;((rw[drewN_self v];generalize hq_:World.drewN v _=v;have j:Aside0 (v.heap[i]? =some (.cells #[.int .i64 0,.slice none 0 0] 29 (0,0))):=⟨by rw[←hq_];exact(qk_ a)⟩;have l:Aside0 (IsS130 c v g s0_0 N O):=⟨by rw[←hq_];exact(qI_)⟩;have m:Aside0 (KeepBut w v g none):=⟨by rw[←hq_];exact(qK_)⟩;have n:Aside0 (Below c.heap.size c v):=⟨by rw[←hq_];exact(qB_)⟩;clear a HI0 HK HB hq_;have a:=j;have HI0:=l;have HK:=m;have HB:=n;clear j l m n;have hcr_gb663_0:v.cell? ⟨i,0,none⟩=some (.int .i64 0):=bl_ a 0;have hfr_gb663_0:=blk_frozen a.out 0;have hcr_gb663_1:v.cell? ⟨i,1,none⟩=some (.slice none 0 0):=bl_ a 1;have hfr_gb663_1:=blk_frozen a.out 1)))|((with_reducible refine gc_ 99 ?_);refine gl_ (some 14) Try.func99 #[.pointer (some ⟨g,0,none⟩),.int .i64 y] ?_;(with_reducible refine(spec_l01Below.calls g s0_0 N O y T X Y c _ ?side1 ?side2 a6.out).mono ?_);(case side1=>exact qI_);(case side2=>exact qB_);rintro e b3 ⟨rfl,hi,hb,hk⟩;refine⟨_,rfl,?_⟩;replace a:=am_ (KeepBut.blk hk (g' :=i) (o:= .cells #[.int .i64 0,.slice none 0 0] 29 (0,0)) (qk_ a) u.out (by simp));replace HI0:=am_ (hi);replace HK:=am_ (KeepBut.trans (qK_) hk (.inl rfl));replace HB:=am_ (hb);clear hb hk hi)|((with_reducible refine gc_ 130 ?_);refine gl_ (some 15) Try.func130 #[.pointer (some ⟨g,0,none⟩),.int .i64 (wrap64 (2 + M)),.int .i64 T] ?_;(with_reducible refine(spec_l08Web.calls k g s0_0 X Y (wrap64 (2 + M)) T U V a7 a8 c _ ?side1 ?side2 a9.out).mono ?_);(case side1=>exact qI_);(case side2=>exact qB_);rintro e b0 ⟨b4,rfl,ho0,hi,hb,hk⟩;refine⟨_,rfl,?_⟩;have Z:=am_ (Kd.R_lower ho0 (keep_size (w:=w) (g:=g) (row:=none) (qK_)));replace a:=am_ (KeepBut.blk hk (g' :=i) (o:= .cells #[.int .i64 0,.slice none 0 0] 29 (0,0)) (qk_ a) u.out (by simp));replace HI0:=am_ (hi);replace HK:=am_ (KeepBut.trans (qK_) hk (.inl rfl));replace HB:=am_ (hb);clear hb hk hi ho0;obtain⟨b5,b6⟩:=nn_ u;obtain⟨b7,b8,b9,c0⟩:=bc2_ a;obtain⟨a0,a1,b1⟩:=Kd.R_slice Z.out;subst b1))
 refine bodyPost_ret (results_cell_row rfl _ _ i 29 #[.int .i64 U,.slice a0 V.length a1] (0,0) _ rfl (qp_ a) Try.underlying29 rfl (by kernel_rfl)) rfl ?_
 exact⟨_,qr_,by(with_reducible repeat(first|apply Kd.R_alloc|apply Kd.R_drewN|apply Kd.R_drew));exact Kd.R_mono (Kd.R_far (p:=⟨i,1,none⟩) (Kd.R_far (p:=⟨i,0,none⟩) (Kd.R_types Z.out a.out (by decide)) (fun _ hk=>hk.2) (.int .i64 U)) (fun _ hk=>hk.2) (.slice a0 V.length a1)) (fun _ hk=>trivial),qI_,qB_,qK_⟩
end Go.Proofs.Ytbkklafkoegdpaa.QFnTakes

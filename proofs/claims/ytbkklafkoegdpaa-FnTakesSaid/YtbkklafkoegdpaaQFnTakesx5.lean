import Derived.Test.YtbkklafkoegdpaaQFnTakesx4
namespace Go.Proofs.Ytbkklafkoegdpaa.QFnTakes
open Go.RowKit Go.Proofs.YtbkklafkoegdpaaW.PrintWords Go.Proofs.YtbkklafkoegdpaaW.PrintLast Go.Proofs.YtbkklafkoegdpaaW.PrintMore
set_option maxHeartbeats 8000000
set_option maxRecDepth 100000
set_option linter.unusedVariables false
set_option linter.unusedSimpArgs false
def impl_GraphOk.f (k:Nat) (a0_0:Int) (l0_1:List (S43)):Option (Bool):=(impl_in.f a0_0 1 12).bind fun t113=>(if t113=true then ((impl_edgesOk.f k a0_0 l0_1).bind fun t114=>(some t114)) else (some false))
theorem impl_GraphOk.calls (k:Nat) (a:Int) (d:Option Addr) (g:Nat) (c:List (S43)) (r:Bool) (w:World) (hr0_1:Kd.C k43 w d c.length c) (hc0_1:c.length≤g) (h:impl_GraphOk.f k a c=some r):
  Calls Try.prog 62 #[.agg #[.int .i64 a,.slice d c.length g]] w fun e w' =>e= .returned (.bool r)∧Below w.heap.size w w' :=by
 have hu69:=Try.underlying69
 have i:=am_ hr0_1
 have j:=am_ hc0_1
 clear hr0_1 hc0_1
 have HB:=am_ (Below.refl w.heap.size w)
 rw[impl_GraphOk.f]at h;have H:=h;clear h
 obtain⟨s,m,H⟩:=bs_ H
 refine ie_ H ?_ ?_<;>clear H<;>rintro rfl H
 ·obtain⟨n,o,H⟩:=bs_ H
  obtain rfl:=oi_ H
  go_enter Try.func62,Try.ntmps62
  go_wp2_with (first|((with_reducible refine gd_ 1 ?_);refine by_ 1 (cs:= #[.int .i64 a,.slice d c.length g]) (t:=69) ?_;intro p hg u l hb;have q:=gw_ hg;replace HB:=hs_ hb;clear hb hg;obtain⟨v,x,y,z⟩:=bc2_ l)|((with_reducible refine gc_ 66 ?_);refine gl_ (some 5) Try.func66 #[.int .i64 a,.int .i64 1,.int .i64 12] ?_;(with_reducible refine(impl_in.calls a 1 12 true _ m.out).mono ?_);rintro e w' ⟨rfl,⟨nd,rfl⟩⟩;refine⟨_,rfl,?_⟩)|(go_at_call 111;(with_reducible refine(impl_edgesOk.calls k a _ _ c n _ ?side1 ?side2 o.out).mono ?_);(case side1=>repeat(first|exact(Kd.C_below i.out qB_)|(with_reducible refine Kd.C_alloc ?_ _)|(with_reducible refine Kd.C_drewN ?_ _)|(with_reducible refine Kd.C_drew ?_)));(case side2=>exact j.out);rintro e A ⟨rfl,hb⟩;replace l:=qbl_ l hb;replace HB:=hs_ hb;clear hb))
  go_ret
  exact⟨qr_,qB_⟩
 obtain rfl:=oi_ H
 go_enter Try.func62,Try.ntmps62
 go_wp2_with (first|((with_reducible refine gd_ 1 ?_);refine by_ 1 (cs:= #[.int .i64 a,.slice d c.length g]) (t:=69) ?_;intro p hg B l hb;have q:=gw_ hg;replace HB:=hs_ hb;clear hb hg;obtain⟨D,E,F,G⟩:=bc2_ l)|((with_reducible refine gc_ 66 ?_);refine gl_ (some 5) Try.func66 #[.int .i64 a,.int .i64 1,.int .i64 12] ?_;(with_reducible refine(impl_in.calls a 1 12 false _ m.out).mono ?_);rintro e w' ⟨rfl,⟨nd,rfl⟩⟩;refine⟨_,rfl,?_⟩))
 go_ret
 exact⟨qr_,qB_⟩
def impl_GraphOf.l0:Nat→List (S72)→Int→Int→Int→List (S43)→Option (Int × (List (S43)))
  |0,_,_,_,_,_=>none
  |k + 1,x10,x11,x12,x118000,x118001=>if x12<x11 then (if 0≤x12 then (if x12<(x10.length:Int) then (if x118001.length<8796093022208 then (impl_GraphOf.l0 k x10 x11 (wrap64 (x12 + 1)) x118000 (x118001++[(⟨(rd_T72 x10 x12).f0,(rd_T72 x10 x12).f1⟩:S43)])) else (none)) else (none)) else (none)) else (some (x118000,x118001))
def impl_GraphOf.f (k:Nat) (a0_0:Int) (l0_1:List (S72)):Option (Int × (List (S43))):=impl_GraphOf.l0 k l0_1 (l0_1.length:Int) 0 a0_0 ([]:List (S43))
theorem impl_GraphOf.calls (k:Nat) (d:Int) (m:Option Addr) (i:Nat) (c:List (S72)) (M:Int) (N:List (S43)) (w:World) (hr0_1:Kd.C k72 w m c.length c) (hc0_1:c.length≤i) (h:impl_GraphOf.f k d c=some (M,N)):
  Calls Try.prog 63 #[.agg #[.int .i64 d,.slice m c.length i]] w fun e w' =>∃ A:Value,e= .returned (.agg #[.int .i64 M,A])∧Kd.R k43 43 w' w.heap.size (fun _=>True) A N∧Below w.heap.size w w' :=by
 have hu29:=Try.underlying29;have hu69:=Try.underlying69;have hu72:=Try.underlying72;have hu43:=Try.underlying43
 have u:=am_ hr0_1
 have O:=am_ hc0_1
 clear hr0_1 hc0_1
 have HB:=am_ (Below.refl w.heap.size w)
 have H:(impl_GraphOf.l0 k c (c.length:Int) 0 d ([]:List (S43)))=some (M,N):=h
 clear h;have H' :=am_ H;clear H
 go_enter Try.func63,Try.ntmps63
 go_wp2_with (first|((with_reducible refine gd_ 1 ?_);refine by_ 1 (cs:= #[.int .i64 d,.slice m c.length i]) (t:=29) ?_;intro a1 hg d3 j hb;have d4:=gw_ hg;replace HB:=hs_ hb;clear hb hg)|((with_reducible refine gd_ 2 ?_);refine by_ 2 (cs:= #[.int .i64 0,.slice none 0 0]) (t:=69) ?_;intro B hg d5 l hb;have d6:=gw_ hg;obtain⟨b1,b2⟩:=qn_ j hg;replace j:=qbl_ j hb;replace HB:=hs_ hb;clear hb hg;obtain⟨d7,d8⟩:=nn_ b1;obtain⟨b3,b4,b5,b6⟩:=bc2_ j)|((with_reducible refine gd_ 3 ?_);refine by_ 3 (cs:= #[.int .i64 0,.slice none 0 0]) (t:=69) ?_;intro T hg d9 n hb;have e0:=gw_ hg;obtain⟨e1,U⟩:=qn_ j hg;obtain⟨e2,V⟩:=qn_ l hg;replace j:=qbl_ j hb;replace l:=qbl_ l hb;replace HB:=hs_ hb;clear hb hg;obtain⟨e3,e4⟩:=nn_ U;obtain⟨e5,e6⟩:=nn_ V;obtain⟨b7,b8,b9,c0⟩:=bc2_ n;obtain⟨c1,c2,c3,c4⟩:=bc2_ j))
 go_loopg [12] k (fun kq v12 w' =>∃ (a:Int) (v:List (S43)) (D:Value),v12= .int .i64 a∧Aside0 (impl_GraphOf.l0 kq c (c.length:Int) a d v=some (M,N))∧Aside0 (kq≤k)∧Aside0 (Kd.R k43 43 w' w.heap.size (fun _=>True) D v)∧Aside0 (w'.heap[a1]? =some (.cells #[.int .i64 d,(.slice m c.length i)] 29 (0,0)))∧Aside0 (w'.heap[B]? =some (.cells #[.int .i64 0,(.slice none 0 0)] 69 (0,0)))∧Aside0 (w'.heap[T]? =some (.cells #[.int .i64 d,D] 69 (0,0)))∧Aside0 (Below w.heap.size w w'))
 case atStart=>exact⟨(0),(([]:List (S43))),(.slice none 0 0),qe_,H',⟨Nat.le_refl _⟩,⟨by first|exact Kd.R_nil _ _ _ _ _|exact Kd.N_nil _ _ _ _ _|exact Kd.V_nil _ _ _ _ _|exact Kd.Q_nil _ _ _ _ _|exact Kd.S_nil _ _ _ _ _⟩,⟨qf_ j⟩,⟨qf_ l⟩,⟨qp_ n⟩,⟨qB_⟩⟩
 case round=>
  clear H' c1 c2 b3 b4 b7 b8 c3 c4 b5 b6 b9 c0
  obtain⟨a,v,D,rfl,HA,HK1,s,j,l,n,HB⟩:=hrel
  cases gk with
  |zero=>exact absurd HA.out (by simp [impl_GraphOf.l0])
  |succ c5=>
   have H:=HA.out;clear HA
   simp only[impl_GraphOf.l0]at H
   refine ib_ H ?_ ?_<;>clear H<;>intro X H
   ·simp only[Option.some.injEq,Prod.mk.injEq]at H
    obtain⟨rfl,rfl⟩:=H
    obtain⟨f6,f7⟩:=nn_ U;obtain⟨f8,f9⟩:=nn_ V
    obtain⟨g0,g1,g2,g3⟩:=bc2_ n
    obtain⟨j0,j1⟩:=nn_ b2
    obtain⟨g4,g5,g6,g7⟩:=bc2_ l
    obtain⟨a2,a3,c6⟩:=Kd.R_slice s.out
    subst c6
    go_wp2
    refine bodyPost_ret (results_cell_row rfl _ _ B 69 #[.int .i64 d,.slice a2 v.length a3] (0,0) _ rfl (qp_ l) Try.underlying69 rfl (by kernel_rfl)) rfl ?_
    exact⟨_,qr_,by(with_reducible repeat(first|apply Kd.R_alloc|apply Kd.R_drewN|apply Kd.R_drew));exact Kd.R_mono (Kd.R_far (p:=⟨B,1,none⟩) (Kd.R_far (p:=⟨B,0,none⟩) (Kd.R_types s.out l.out (by decide)) (fun _ hk=>hk.2) (.int .i64 d)) (fun _ hk=>hk.2) (.slice a2 v.length a3)) (fun _ hk=>trivial),qB_⟩
   refine ig_ H ?_;clear H;intro Y H
   refine ig_ H ?_;clear H;intro Z H
   refine jg_ H ?_;clear H;intro E H
   have x:=am_ E
   clear E
   generalize q:(v++[(⟨(rd_T72 c a).f0,(rd_T72 c a).f1⟩:S43)])=a0 at H;replace H:=bh_ H;have y:=am_ q.symm;clear q;have H' :=am_ H;clear H
   have F:=dt_ a
   have G:=du_ a c.length
   obtain⟨z,I,a4,a5,a6,a7⟩:=at_T72 u.out a (ot_ F) (ot_ G)
   cases I
   replace a4:=qx_ HB a4
   replace a5:=qx_ HB a5
   replace a6:=qx_ HB a6
   replace a7:=qx_ HB a7
   go_wp2_with (first|((with_reducible refine gd_ 5 ?_);refine by_ 5 (cs:= #[.int .i64 0,.int .i64 0,.int .i64 0,.bool false]) (t:=72) ?_;intro J hg c7 L hb;have g8:=gw_ hg;obtain⟨g9,c8⟩:=qn_ j hg;obtain⟨h0,c9⟩:=qn_ l hg;obtain⟨h1,d0⟩:=qn_ n hg;replace s:=kb_ s hb;replace j:=qbl_ j hb;replace l:=qbl_ l hb;replace n:=qbl_ n hb;replace HB:=hs_ hb;clear hb hg;obtain⟨j3,j4⟩:=nn_ c8;obtain⟨h2,h3⟩:=nn_ c9;obtain⟨h4,h5⟩:=nn_ d0;obtain⟨h6,h7,h8,h9,i0,i1,i2,i3⟩:=bc4_ L;obtain⟨i4,i5⟩:=nn_ U;obtain⟨i6,i7⟩:=nn_ V;obtain⟨i8,i9,j5,j6⟩:=bc2_ n)|((with_reducible refine gate_builtin (b:= .append) (xs:= #[.tmp 17,.tmp 23]) rfl ?_);at_builtin;refine Kd.R_append k43 (w0:=w) w.heap.size rfl (.tmp 17) (.tmp 23) 67 43 (.agg #[(.int .i64 0),(.int .i64 0)]) 16 rfl Try.underlying67 info43 rfl (by decide) (by omega) D v (⟨(rd_T72 c a).f0,(rd_T72 c a).f1⟩:S43) [.int .i64 ((rd_T72 c a).f0),.int .i64 ((rd_T72 c a).f1)] (fun _=>True) (fun _=>False) rfl (by first|(go_simp;done)|(go_simp;rfl)) ?aP (fun _ hk=>hk.elim) ?aF ?aO ?aB ?aS ?aL ?_;(case aP=>exact k43_mkM _ _ _ (⟨(rd_T72 c a).f0,(rd_T72 c a).f1⟩:S43));(case aB=>exact qB_);(case aF=>exact(fun _ _=>trivial));(case aO=>exact(by(with_reducible repeat(first|apply Kd.R_alloc|apply Kd.R_drewN|apply Kd.R_drew));exact Kd.R_mono (Kd.R_far (p:=⟨J,3,none⟩) (Kd.R_far (p:=⟨J,2,none⟩) (Kd.R_far (p:=⟨J,1,none⟩) (Kd.R_far (p:=⟨J,0,none⟩) (Kd.R_types s.out L.out (by decide)) (fun _ hk=>hk.2) (.int .i64 ((rd_T72 c a).f0))) (fun _ hk=>hk.2) (.int .i64 ((rd_T72 c a).f1))) (fun _ hk=>hk.2) (.int .i64 ((rd_T72 c a).f2))) (fun _ hk=>hk.2) (.bool ((rd_T72 c a).f3))) (fun _ hk=>trivial)));(case aS=>exact(below_size qB_));(case aL=>have:=x.out;omega);intro l1 d1 ho hb hg hat;rw[←y.out]at ho;have a8:=am_ (ho);replace j:=am_ (blk_grown (g:=a1) (o:= .cells #[.int .i64 d,.slice (some z) c.length i] 29 (0,0)) (qf_ j) hg (Kd.R_ne s.out j.out (by decide)));replace l:=am_ (blk_grown (g:=B) (o:= .cells #[.int .i64 0,.slice none 0 0] 69 (0,0)) (qf_ l) hg (Kd.R_ne s.out l.out (by decide)));replace n:=am_ (blk_grown (g:=T) (o:= .cells #[.int .i64 d,D] 69 (0,0)) (qf_ n) hg (Kd.R_ne s.out n.out (by decide)));replace L:=am_ (blk_grown (g:=J) (o:= .cells #[.int .i64 ((rd_T72 c a).f0),.int .i64 ((rd_T72 c a).f1),.int .i64 ((rd_T72 c a).f2),.bool ((rd_T72 c a).f3)] 72 (0,0)) (qp_ L) hg (Kd.R_ne s.out L.out (by decide)));replace HB:=am_ (hb);clear s ho hb hg hat;obtain⟨a9,b0,d2⟩:=Kd.R_slice a8.out;subst d2;obtain⟨j7,j8,j9,k0⟩:=bc2_ n))
   go_roundg c5
   case measure=>have:=HK1.out;omega
   case rel=>exact⟨(wrap64 (a + 1)),(a0),(.slice a9 a0.length b0),qe_,H',⟨by have:=HK1.out;omega⟩,⟨by(with_reducible repeat(first|apply Kd.R_alloc|apply Kd.R_drewN|apply Kd.R_drew));exact Kd.R_mono (Kd.R_far (p:=⟨T,1,none⟩) (Kd.R_types a8.out n.out (by decide)) (fun _ hk=>hk.2) (.slice a9 a0.length b0)) (fun _ hk=>trivial)⟩,⟨qf_ j⟩,⟨qf_ l⟩,⟨qp_ n⟩,⟨qB_⟩⟩
def impl_first.l0:Nat→List Int→Int→Int→Option (List Int)
  |0,_,_,_=>none
  |k + 1,x3,x5,x6=>if x6<x5 then (if x3.length<17592186044416 then (impl_first.l0 k (x3++[x6]) x5 (wrap64 (x6 + 1))) else (none)) else (some x3)
def impl_first.f (k:Nat) (a0:Int):Option (List Int):=impl_first.l0 k ([]:List Int) a0 0
theorem impl_first.calls (k:Nat) (l:Int) (r:List Int) (w:World) (h:impl_first.f k l=some r):
  Calls Try.prog 112 #[.int .i64 l] w fun e w' =>∃ i:Value,e= .returned (i)∧Kd.R (Kd.int .i64) 3 w' w.heap.size (fun _=>True) i r∧Below w.heap.size w w' :=by
 have HB:=am_ (Below.refl w.heap.size w)
 rw[impl_first.f]at h;have H:=h;clear h;have H' :=am_ H;clear H
 go_enter Try.func112,Try.ntmps112
 go_wp2
 go_loopg [3,6] k (fun kq v3 v6 w' =>∃ (c:List Int) (a:Int),v6= .int .i64 a∧Aside0 (impl_first.l0 kq c l a=some r)∧Aside0 (kq≤k)∧Aside0 (Kd.R (Kd.int .i64) 3 w' w.heap.size (fun _=>True) v3 c)∧Aside0 (Below w.heap.size w w'))
 case atStart=>exact⟨(([]:List Int)),(0),qe_,H',⟨Nat.le_refl _⟩,⟨by first|exact Kd.R_nil _ _ _ _ _|exact Kd.N_nil _ _ _ _ _|exact Kd.V_nil _ _ _ _ _|exact Kd.Q_nil _ _ _ _ _|exact Kd.S_nil _ _ _ _ _⟩,⟨qB_⟩⟩
 case round=>
  clear H'
  obtain⟨c,a,rfl,HA,HK1,m,HB⟩:=hrel
  cases gk with
  |zero=>exact absurd HA.out (by simp [impl_first.l0])
  |succ p=>
   have H:=HA.out;clear HA
   simp only[impl_first.l0]at H
   refine ib_ H ?_ ?_<;>clear H<;>intro n H
   ·obtain rfl:=oi_ H
    go_wp2
    go_ret
    exact⟨_,qr_,qR_ m,qB_⟩
   refine jg_ H ?_;clear H;intro o H
   have j:=am_ o
   clear o
   generalize d:(c++[a])=q at H;replace H:=bh_ H;have g:=am_ d.symm;clear d;have H' :=am_ H;clear H
   go_wp2_with (first|((with_reducible refine gate_builtin (b:= .append) (xs:= #[.tmp 9,.tmp 11]) rfl ?_);at_builtin;refine Kd.R_append (Kd.int .i64) (w0:=w) w.heap.size rfl (.tmp 9) (.tmp 11) 51 3 (.int .i64 0) 8 rfl Try.underlying51 info3 rfl (by decide) (by omega) u3 c a [.int .i64 a] (fun _=>True) (fun _=>False) rfl rfl ?aP (fun _ hk=>hk.elim) ?aF ?aO ?aB ?aS ?aL ?_;(case aP=>exact rfl);(case aB=>exact qB_);(case aF=>exact(fun _ _=>trivial));(case aO=>exact(qR_ m));(case aS=>exact(below_size qB_));(case aL=>have:=j.out;omega);intro u v ho hb hg hat;rw[←g.out]at ho;have s:=am_ (ho);replace HB:=am_ (hb);clear m ho hb hg hat))
   go_roundg p
   case measure=>have:=HK1.out;omega
   case rel=>exact⟨(q),(wrap64 (a + 1)),qe_,H',⟨by have:=HK1.out;omega⟩,⟨ra_ s⟩,⟨qB_⟩⟩
def impl_union.l0:Nat→List Int→Int→Int→Int→Int→Option (Bool × List Int)
  |0,_,_,_,_,_=>none
  |k + 1,x0,x7,x8,x22,x23=>if x23<x22 then (if 0≤x23 then (if x23<(x0.length:Int) then (if (rd x0 x23)=(mx x7 x8) then (impl_union.l0 k (x0.set (x23:Int).toNat (mn x7 x8)) x7 x8 x22 (wrap64 (x23 + 1))) else (impl_union.l0 k x0 x7 x8 x22 (wrap64 (x23 + 1)))) else (none)) else (none)) else (some (true,x0))
def impl_union.f (k:Nat) (l0:List Int) (a1:Int) (a2:Int):Option (Bool × List Int):=if 0≤a1 then (if a1<(l0.length:Int) then (if 0≤a2 then (if a2<(l0.length:Int) then (if (rd l0 a1)=(rd l0 a2) then (some (false,l0)) else (impl_union.l0 k l0 (rd l0 a1) (rd l0 a2) (l0.length:Int) 0)) else (none)) else (none)) else (none)) else (none)
theorem impl_union.calls (k:Nat) (m:Nat→Prop) (u9000_:Value) (l0:List Int) (n:Int) (o:Int) (b5:Bool) (b6:List Int) (z w:World) (hB:Below z.heap.size z w) (ho0:Kd.R (Kd.int .i64) 3 w z.heap.size m u9000_ l0) (h:impl_union.f k l0 n o=some (b5,b6)):
  Calls Try.prog 113 #[u9000_,.int .i64 n,.int .i64 o] w fun e w' =>e= .returned (.bool b5)∧Kd.R (Kd.int .i64) 3 w' z.heap.size (fun k_=>(m k_∨w.heap.size≤k_)) u9000_ b6∧Below z.heap.size z w' ∧Kept w w' (fun k_=>m k_):=by
 have a0:=am_ (show Kd.R (Kd.int .i64) 3 w z.heap.size (fun k_=>(m k_∨w.heap.size≤k_)) u9000_ l0 from Kd.R_mono ho0 (fun k_ hk=>(.inl hk)))
 have HK:=am_ (Kept.refl w (fun k_=>m k_))
 have HW0:=am_ hB.size
 have HB:=am_ hB
 clear hB
 have H:(if 0≤n then (if n<(l0.length:Int) then (if 0≤o then (if o<(l0.length:Int) then (if (rd l0 n)=(rd l0 o) then (some (false,l0)) else (impl_union.l0 k l0 (rd l0 n) (rd l0 o) (l0.length:Int) 0)) else (none)) else (none)) else (none)) else (none))=some (b5,b6):=h
 clear h
 refine ig_ H ?_;clear H;intro b0 H
 refine ig_ H ?_;clear H;intro b1 H
 refine ig_ H ?_;clear H;intro b2 H
 refine ig_ H ?_;clear H;intro b3 H
 refine jc_ H ?_ ?_<;>clear H<;>intro a9 H
 ·have a1:((rd l0 n)==(rd l0 o))=true:=beq_iff_eq.mpr a9
  have a2:((rd l0 n) != (rd l0 o))=false:=bne_eq_false_iff_eq.mpr a9
  clear a9
  simp only[Option.some.injEq,Prod.mk.injEq]at H
  obtain⟨rfl,rfl⟩:=H
  obtain⟨d3,d4,d1⟩:=Kd.R_slice a0.out
  subst d1
  have G:=dt_ n
  have I:=du_ n l0.length
  obtain⟨i,M,b9⟩:=Kd.at_int (Kd.R_reads' a0.out).2.2 n (ot_ G) (ot_ I)
  cases M
  have J:=dt_ o
  have L:=du_ o l0.length
  obtain⟨A,N,c0⟩:=Kd.at_int (Kd.R_reads' a0.out).2.2 o (ot_ J) (ot_ L)
  obtain rfl:i=A:=(by injection N)
  go_enter Try.func113,Try.ntmps113
  go_wp2
  repeat(go_quiet (fail);try go_wp2)
  go_ret
  exact⟨qr_,qR_ a0,qB_,qK_⟩
 have a1:((rd l0 n)==(rd l0 o))=false:=beq_eq_false_iff_ne.mpr a9
 have a2:((rd l0 n) != (rd l0 o))=true:=bne_iff_ne.mpr a9
 have H' :=am_ H;clear H
 obtain⟨d5,c1,d2⟩:=Kd.R_slice a0.out
 subst d2
 have G:=dt_ n
 have I:=du_ n l0.length
 obtain⟨i,M,b9⟩:=Kd.at_int (Kd.R_reads' a0.out).2.2 n (ot_ G) (ot_ I)
 cases M
 have J:=dt_ o
 have L:=du_ o l0.length
 obtain⟨A,N,c0⟩:=Kd.at_int (Kd.R_reads' a0.out).2.2 o (ot_ J) (ot_ L)
 obtain rfl:i=A:=(by injection N)
 go_enter Try.func113,Try.ntmps113
 go_wp2
 repeat(go_quiet (fail);try go_wp2)
 go_loopg [23] k (fun kq v23 w' =>∃ (c:List Int) (a:Int),v23= .int .i64 a∧Aside0 (impl_union.l0 kq c (rd l0 n) (rd l0 o) (l0.length:Int) a=some (b5,b6))∧Aside0 (kq≤k)∧Aside0 (Kd.R (Kd.int .i64) 3 w' z.heap.size (fun k_=>(m k_∨w.heap.size≤k_)) (.slice (some i) l0.length c1) c)∧Aside0 (Kept w w' (fun k_=>m k_))∧Aside0 (Below z.heap.size z w'))
 case atStart=>exact⟨(l0),(0),qe_,H',⟨Nat.le_refl _⟩,⟨ra_ a0⟩,⟨qK_⟩,⟨qB_⟩⟩
 case round=>
  clear H' b0 b1 b2 b3 a9 a1 a2 b9 c0 G J I L
  obtain⟨c,a,rfl,HA,HK1,g,HK,HB⟩:=hrel
  have d:=(Kd.R_reads' g.out).1
  rw[d]at g
  simp only[d]
  cases gk with
  |zero=>exact absurd HA.out (by simp [impl_union.l0])
  |succ c5=>
   have H:=HA.out;clear HA
   simp only[impl_union.l0]at H
   refine jb_ H ?_ ?_<;>clear H<;>intro Z H
   ·have B:=decide_eq_false Z
    rw[d]at B
    clear Z
    simp only[Option.some.injEq,Prod.mk.injEq]at H
    obtain⟨rfl,rfl⟩:=H
    go_wp2
    repeat(go_quiet (fail);try go_wp2)
    go_ret
    exact⟨qr_,(by first|exact(qR_ g)|(simp only[d];exact(qR_ g))),qB_,qK_⟩
   have B:=decide_eq_true Z
   rw[d]at B
   clear Z
   refine ig_ H ?_;clear H;intro c2 H
   refine ig_ H ?_;clear H;intro c3 H
   obtain⟨y,C⟩:∃ j_:Int,(mx (rd l0 n) (rd l0 o))=j_:=⟨_,rfl⟩
   first|rw[C]at H|simp only[C]at H
   have hji14_:(if (rd l0 n)<(rd l0 o) then (rd l0 o) else (rd l0 n))=y:=C
   refine jb_ H ?_ ?_<;>clear H<;>intro O H
   ·have a5:((rd c a)==(y))=false:=beq_eq_false_iff_ne.mpr O
    have a6:((rd c a) != (y))=true:=bne_iff_ne.mpr O
    have H' :=am_ H;clear H
    have T:=dt_ a
    have U:=du_ a c.length
    obtain⟨D,V,c6⟩:=Kd.at_int (Kd.R_reads' g.out).2.2 a (ot_ T) (ot_ U)
    obtain rfl:i=D:=(by injection V)
    go_wp2
    repeat(go_quiet (fail);try go_wp2)
    simp only[←d]
    go_roundg c5
    case measure=>have:=HK1.out;omega
    case rel=>exact⟨(c),(wrap64 (a + 1)),qe_,H',⟨by have:=HK1.out;omega⟩,⟨by simp only[d];(with_reducible repeat(first|apply Kd.R_alloc|apply Kd.R_drewN|apply Kd.R_drew));first|exact g.out|(have h_:=g.out;simp only[own_slice]at h_ ⊢;exact h_)⟩,⟨qK_⟩,⟨qB_⟩⟩
   have a5:((rd c a)==(y))=true:=beq_iff_eq.mpr O
   have a6:((rd c a) != (y))=false:=bne_eq_false_iff_eq.mpr O
   clear O
   obtain⟨q,E⟩:∃ j_:Int,(mn (rd l0 n) (rd l0 o))=j_:=⟨_,rfl⟩
   first|rw[E]at H|simp only[E]at H
   have hji16_:(if (rd l0 o)<(rd l0 n) then (rd l0 o) else (rd l0 n))=q:=E
   generalize X:(c.set (a:Int).toNat (q))=c4 at H;replace H:=bh_ H;have Y:=am_ X.symm;clear X;have H' :=am_ H;clear H
   have T:=dt_ a
   have U:=du_ a c.length
   obtain⟨D,V,c6⟩:=Kd.at_int (Kd.R_reads' g.out).2.2 a (ot_ T) (ot_ U)
   obtain rfl:i=D:=(by injection V)
   have a7:=dp_ a
   have a8:(a:Int)<((c.length:Int):Int):=of_decide_eq_true qa_
   obtain⟨j,e5,c7,c8,b4,c9,a3⟩:=Kd.R_form g.out (by omega)
   (first|cases c7|(injection c7 with ea_ en_ ec_;(first|subst ea_|(injection ea_ with ea_;subst ea_));subst ec_;clear en_))
   have a4:=am_ c8
   have d0:=am_ a3
   clear c8 b4 a3
   have b7:=am_ (show(m j∨w.heap.size≤j) from(g.out.1 _ rfl))
   (first|simp only[add_plain]at b9|skip)
   (first|simp only[add_plain]at c0|skip)
   (first|simp only[add_plain]at c6|skip)
   simp only[add_plain]at *
   obtain⟨e6,b8⟩:=Kd.R_celln 0 g.out (a:Int) a7 a8
   replace a7:=eq_true a7;replace a8:=eq_true a8
   have l:=Kd.R_putg g.out (a:Int) q
   go_wp2_with (first|((with_reducible refine gate_store (t:=3) (p:=39) rfl ?_);(try(rw[drewN_self wr];generalize hq_:World.drewN wr _=wr;have s:=am_ (Kd.R_at hq_ g.out);have u:=am_ (kept_at hq_ HK.out);have x:=am_ (below_at hq_ HB.out);clear hq_ g HK HB;have g:=s;have HK:=u;have HB:=x;skip;(try(have l:=Kd.R_putg g.out (a:Int) q))));refine store_event (t:=3) (p:=39) (v:= ?vo_w19) (w1:=(wr.setCell ⟨j,(a:Int).toNat,none⟩ (.int .i64 q))) ?hg ?ho ?hn ?hr ?_;(case ho=>rfl);(case hg=>rfl);(case hn=>rfl);(case hr=>first|(go_simp;done)|(go_simp;rfl));intro F hw;have hg:wr.grownBy F (some j):=(by rw[hw];exact l.2);have hp_:Kd.R (Kd.int .i64) 3 F z.heap.size (fun k_=>(m k_∨w.heap.size≤k_)) (.slice (some ⟨j,0,none⟩) c.length c1) c4:=(by rw[hw,Y.out];exact l.1);clear l;have s:=am_ (hp_);have u:=am_ ((by rw[hw];exact below_set (HB.out) a4.out:Below z.heap.size z F));have x:=am_ (Kept.of_grown (S:=(fun k_=>m k_)) hg (qK_) (fun k_ e_=>(g.out.1 k_ e_)));clear g HB HK;have g:=s;have HB:=u;have HK:=x;clear s u x hg hw hp_))
   repeat(go_quiet (fail);try go_wp2_with (first|((with_reducible refine gate_store (t:=3) (p:=39) rfl ?_);(try(rw[drewN_self wr];generalize hq_:World.drewN wr _=wr;have s:=am_ (Kd.R_at hq_ g.out);have u:=am_ (kept_at hq_ HK.out);have x:=am_ (below_at hq_ HB.out);clear hq_ g HK HB;have g:=s;have HK:=u;have HB:=x;skip;(try(have l:=Kd.R_putg g.out (a:Int) q))));refine store_event (t:=3) (p:=39) (v:= ?vo_w19) (w1:=(wr.setCell ⟨j,(a:Int).toNat,none⟩ (.int .i64 q))) ?hg ?ho ?hn ?hr ?_;(case ho=>rfl);(case hg=>rfl);(case hn=>rfl);(case hr=>first|(go_simp;done)|(go_simp;rfl));intro F hw;have hg:wr.grownBy F (some j):=(by rw[hw];exact l.2);have hp_:Kd.R (Kd.int .i64) 3 F z.heap.size (fun k_=>(m k_∨w.heap.size≤k_)) (.slice (some ⟨j,0,none⟩) c.length c1) c4:=(by rw[hw,Y.out];exact l.1);clear l;have s:=am_ (hp_);have u:=am_ ((by rw[hw];exact below_set (HB.out) a4.out:Below z.heap.size z F));have x:=am_ (Kept.of_grown (S:=(fun k_=>m k_)) hg (qK_) (fun k_ e_=>(g.out.1 k_ e_)));clear g HB HK;have g:=s;have HB:=u;have HK:=x;clear s u x hg hw hp_)))
   simp only[←d]
   go_roundg c5
   case measure=>have:=HK1.out;omega
   case rel=>exact⟨(c4),(wrap64 (a + 1)),qe_,H',⟨by have:=HK1.out;omega⟩,⟨by simp only[d];(with_reducible repeat(first|apply Kd.R_alloc|apply Kd.R_drewN|apply Kd.R_drew));first|exact g.out|(have h_:=g.out;simp only[own_slice]at h_ ⊢;exact h_)⟩,⟨qK_⟩,⟨qB_⟩⟩
def impl_rings.l0:Nat→List Int→List (S43)→Int→Int→Option (Bool)
  |0,_,_,_,_=>none
  |k + 1,x5,x10,x11,x12=>if x12<x11 then (if 0≤x12 then (if x12<(x10.length:Int) then ((impl_union.f k x5 ((rd_T43 x10 x12).f0) ((rd_T43 x10 x12).f1)).bind fun bt135=>(if bt135.1=true then (impl_rings.l0 k bt135.2 x10 x11 (wrap64 (x12 + 1))) else (some true))) else (none)) else (none)) else (some false)
def impl_rings.f (k:Nat) (a0:Int) (l1:List (S43)):Option (Bool):=(impl_first.f k a0).bind fun t130=>(impl_rings.l0 k t130 l1 (l1.length:Int) 0)
theorem impl_rings.calls (k:Nat) (B:Int) (U:Option Addr) (D:Nat) (l1:List (S43)) (r:Bool) (w:World) (hr1:Kd.C k43 w U l1.length l1) (hc1:l1.length≤D) (h:impl_rings.f k B l1=some r):
  Calls Try.prog 64 #[.int .i64 B,.slice U l1.length D] w fun e w' =>e= .returned (.bool r)∧Below w.heap.size w w' :=by
 have hu43:=Try.underlying43
 have V:=am_ hr1
 have a8:=am_ hc1
 clear hr1 hc1
 have HB:=am_ (Below.refl w.heap.size w)
 rw[impl_rings.f]at h;have H:=h;clear h
 obtain⟨X,a2,H⟩:=bs_ H
 have H' :=am_ H;clear H
 go_enter Try.func64,Try.ntmps64
 go_wp2_with (first|((with_reducible refine gc_ 112 ?_);refine gl_ (some 9) Try.func112 #[.int .i64 B] ?_;(with_reducible refine(impl_first.calls k B X _ a2.out).mono ?_);rintro e a9 ⟨E,rfl,ho0,hb⟩;refine⟨_,rfl,?_⟩;have a3:=am_ (Kd.R_lower ho0 (below_size qB_));replace HB:=hs_ hb;clear hb ho0))
 go_loopg [12] k (fun kq v12 w' =>∃ (c:List Int) (a:Int),v12= .int .i64 a∧Aside0 (impl_rings.l0 kq c l1 (l1.length:Int) a=some r)∧Aside0 (kq≤k)∧Aside0 (Kd.R (Kd.int .i64) 3 w' w.heap.size (fun _=>True) E c)∧Aside0 (Below w.heap.size w w'))
 case atStart=>exact⟨(X),(0),qe_,H',⟨Nat.le_refl _⟩,⟨ra_ a3⟩,⟨qB_⟩⟩
 case round=>
  clear H'
  obtain⟨c,a,rfl,HA,HK1,d,HB⟩:=hrel
  cases gk with
  |zero=>exact absurd HA.out (by simp [impl_rings.l0])
  |succ F=>
   have H:=HA.out;clear HA
   simp only[impl_rings.l0]at H
   refine ib_ H ?_ ?_<;>clear H<;>intro Y H
   ·obtain rfl:=oi_ H
    go_wp2
    go_ret
    exact⟨qr_,qB_⟩
   refine ig_ H ?_;clear H;intro Z H
   refine ig_ H ?_;clear H;intro a0 H
   obtain⟨⟨b1,G⟩,a1,H⟩:=bs_ H;dsimp only at H
   refine ie_ H ?_ ?_<;>clear H<;>rintro rfl H
   ·have H' :=am_ H;clear H
    have i:=dt_ a
    have j:=du_ a l1.length
    obtain⟨u,l,z,A⟩:=at_T43 V.out a (ot_ i) (ot_ j)
    cases l
    replace z:=qx_ HB z
    replace A:=qx_ HB A
    go_wp2_with (first|((with_reducible refine gd_ 7 ?_);refine by_ 7 (cs:= #[.int .i64 0,.int .i64 0]) (t:=43) ?_;intro m hg I g hb;have J:=gw_ hg;replace d:=kb_ d hb;replace HB:=hs_ hb;clear hb hg;obtain⟨b2,b3,b4,b5⟩:=bc2_ g)|((with_reducible refine gate_store (t:=43) (p:=7) rfl ?_);refine store_event (t:=43) (p:=7) (v:= ?vo_w12) (w1:=((I.setCell ⟨m,0,none⟩ (.int .i64 ((rd_T43 l1 a).f0))).setCell ⟨m,1,none⟩ (.int .i64 ((rd_T43 l1 a).f1)))) ?hg ?ho ?hn ?hr ?_;(case ho=>rfl);(case hg=>rfl);(case hn=>rfl);(case hr=>first|(go_simp;done)|(go_simp;rfl));intro x hw;have n:Aside0 (Kd.R (Kd.int .i64) 3 x w.heap.size (fun _=>True) E c):=⟨(by rw[hw];exact(by(with_reducible repeat(first|apply Kd.R_alloc|apply Kd.R_drewN|apply Kd.R_drew));exact Kd.R_mono (Kd.R_far (p:=⟨m,1,none⟩) (Kd.R_far (p:=⟨m,0,none⟩) (Kd.R_types d.out g.out (by decide)) (fun _ hk=>hk.2) (.int .i64 ((rd_T43 l1 a).f0))) (fun _ hk=>hk.2) (.int .i64 ((rd_T43 l1 a).f1))) (fun _ hk=>trivial)))⟩;have o:Aside0 (x.heap[m]? =some (.cells #[.int .i64 ((rd_T43 l1 a).f0),.int .i64 ((rd_T43 l1 a).f1)] 43 (0,0))):=⟨(by rw[hw];exact(qp_ g))⟩;have q:Aside0 (Below w.heap.size w x):=⟨(by rw[hw];exact qB_)⟩;clear hw d g HB;have d:=n;have g:=o;have HB:=q;clear n o q;obtain⟨b6,b7,b8,b9⟩:=bc2_ g;obtain⟨L,M,a4⟩:=Kd.R_slice d.out;subst a4)|((with_reducible refine gc_ 113 ?_);refine gl_ (some 21) Try.func113 #[.slice L c.length M,.int .i64 ((rd_T43 l1 a).f0),.int .i64 ((rd_T43 l1 a).f1)] ?_;(with_reducible refine(impl_union.calls F (fun k_=>some k_=(.slice L c.length M:Value).ownBlock) (.slice L c.length M) c ((rd_T43 l1 a).f0) ((rd_T43 l1 a).f1) true G w _ ?side1 ?side2 a1.out).mono ?_);(case side1=>exact qB_);(case side2=>exact Kd.R_tight rfl d.out);rintro e a5 ⟨rfl,s,hb,hkp⟩;refine⟨_,rfl,?_⟩;refine dn3_ (am_ (Kd.R_reok rfl s (fun k_ e_=>d.out.1 k_ e_))) (qkp_ g hkp (fun hs_=>(fun e_=>(Kd.R_ne d.out g.out (by decide)) e_) hs_)) (am_ (hb)) ?_;clear d g HB;intro d g HB;clear hb hkp s))
    go_roundg F
    case measure=>have:=HK1.out;omega
    case rel=>exact⟨(G),(wrap64 (a + 1)),qe_,H',⟨by have:=HK1.out;omega⟩,⟨ra_ d⟩,⟨qB_⟩⟩
   obtain rfl:=oi_ H
   have i:=dt_ a
   have j:=du_ a l1.length
   obtain⟨u,l,z,A⟩:=at_T43 V.out a (ot_ i) (ot_ j)
   cases l
   replace z:=qx_ HB z
   replace A:=qx_ HB A
   go_wp2_with (first|((with_reducible refine gd_ 7 ?_);refine by_ 7 (cs:= #[.int .i64 0,.int .i64 0]) (t:=43) ?_;intro m hg N g hb;have J:=gw_ hg;replace d:=kb_ d hb;replace HB:=hs_ hb;clear hb hg;obtain⟨c0,c1,c2,c3⟩:=bc2_ g)|((with_reducible refine gate_store (t:=43) (p:=7) rfl ?_);refine store_event (t:=43) (p:=7) (v:= ?vo_w18) (w1:=((N.setCell ⟨m,0,none⟩ (.int .i64 ((rd_T43 l1 a).f0))).setCell ⟨m,1,none⟩ (.int .i64 ((rd_T43 l1 a).f1)))) ?hg ?ho ?hn ?hr ?_;(case ho=>rfl);(case hg=>rfl);(case hn=>rfl);(case hr=>first|(go_simp;done)|(go_simp;rfl));intro y hw;have n:Aside0 (Kd.R (Kd.int .i64) 3 y w.heap.size (fun _=>True) E c):=⟨(by rw[hw];exact(by(with_reducible repeat(first|apply Kd.R_alloc|apply Kd.R_drewN|apply Kd.R_drew));exact Kd.R_mono (Kd.R_far (p:=⟨m,1,none⟩) (Kd.R_far (p:=⟨m,0,none⟩) (Kd.R_types d.out g.out (by decide)) (fun _ hk=>hk.2) (.int .i64 ((rd_T43 l1 a).f0))) (fun _ hk=>hk.2) (.int .i64 ((rd_T43 l1 a).f1))) (fun _ hk=>trivial)))⟩;have o:Aside0 (y.heap[m]? =some (.cells #[.int .i64 ((rd_T43 l1 a).f0),.int .i64 ((rd_T43 l1 a).f1)] 43 (0,0))):=⟨(by rw[hw];exact(qp_ g))⟩;have q:Aside0 (Below w.heap.size w y):=⟨(by rw[hw];exact qB_)⟩;clear hw d g HB;have d:=n;have g:=o;have HB:=q;clear n o q;obtain⟨c4,c5,c6,c7⟩:=bc2_ g;obtain⟨O,T,a6⟩:=Kd.R_slice d.out;subst a6)|((with_reducible refine gc_ 113 ?_);refine gl_ (some 21) Try.func113 #[.slice O c.length T,.int .i64 ((rd_T43 l1 a).f0),.int .i64 ((rd_T43 l1 a).f1)] ?_;(with_reducible refine(impl_union.calls F (fun k_=>some k_=(.slice O c.length T:Value).ownBlock) (.slice O c.length T) c ((rd_T43 l1 a).f0) ((rd_T43 l1 a).f1) false G w _ ?side1 ?side2 a1.out).mono ?_);(case side1=>exact qB_);(case side2=>exact Kd.R_tight rfl d.out);rintro e a7 ⟨rfl,s,hb,hkp⟩;refine⟨_,rfl,?_⟩;refine dn3_ (am_ (Kd.R_reok rfl s (fun k_ e_=>d.out.1 k_ e_))) (qkp_ g hkp (fun hs_=>(fun e_=>(Kd.R_ne d.out g.out (by decide)) e_) hs_)) (am_ (hb)) ?_;clear d g HB;intro d g HB;clear hb hkp s))
   go_ret
   exact⟨qr_,qB_⟩
def impl_treeEdges.l0:Nat→List (S43)→List (S72)→Int→Int→Option ((List (S43)))
  |0,_,_,_,_=>none
  |k + 1,x3,x7,x8,x9=>if x9<x8 then (if 0≤x9 then (if x9<(x7.length:Int) then (if (rd_T72 x7 x9).f3=true then (if x3.length<8796093022208 then (impl_treeEdges.l0 k (x3++[(⟨(rd_T72 x7 x9).f0,(rd_T72 x7 x9).f1⟩:S43)]) x7 x8 (wrap64 (x9 + 1))) else (none)) else (impl_treeEdges.l0 k x3 x7 x8 (wrap64 (x9 + 1)))) else (none)) else (none)) else (some x3)
def impl_treeEdges.f (k:Nat) (a0_0:Int) (l0_1:List (S72)):Option ((List (S43))):=impl_treeEdges.l0 k ([]:List (S43)) l0_1 (l0_1.length:Int) 0
theorem impl_treeEdges.calls (k:Nat) (i:Int) (l:Option Addr) (j:Nat) (a:List (S72)) (r:List (S43)) (w:World) (hr0_1:Kd.C k72 w l a.length a) (hc0_1:a.length≤j) (h:impl_treeEdges.f k i a=some r):
  Calls Try.prog 65 #[.agg #[.int .i64 i,.slice l a.length j]] w fun e w' =>∃ G:Value,e= .returned (G)∧Kd.R k43 43 w' w.heap.size (fun _=>True) G r∧Below w.heap.size w w' :=by
 have hu29:=Try.underlying29;have hu72:=Try.underlying72;have hu43:=Try.underlying43
 have n:=am_ hr0_1
 have N:=am_ hc0_1
 clear hr0_1 hc0_1
 have HB:=am_ (Below.refl w.heap.size w)
 rw[impl_treeEdges.f]at h;have H:=h;clear h;have H' :=am_ H;clear H
 go_enter Try.func65,Try.ntmps65
 go_wp2_with (first|((with_reducible refine gd_ 1 ?_);refine by_ 1 (cs:= #[.int .i64 i,.slice l a.length j]) (t:=29) ?_;intro T hg b2 m hb;have b3:=gw_ hg;replace HB:=hs_ hb;clear hb hg;obtain⟨a0,a1,a2,a3⟩:=bc2_ m))
 go_loopg [3,9] k (fun kq v3 v9 w' =>∃ (d:List (S43)) (c:Int),v9= .int .i64 c∧Aside0 (impl_treeEdges.l0 kq d a (a.length:Int) c=some r)∧Aside0 (kq≤k)∧Aside0 (Kd.R k43 43 w' w.heap.size (fun _=>True) v3 d)∧Aside0 (w'.heap[T]? =some (.cells #[.int .i64 i,(.slice l a.length j)] 29 (0,0)))∧Aside0 (Below w.heap.size w w'))
 case atStart=>exact⟨(([]:List (S43))),(0),qe_,H',⟨Nat.le_refl _⟩,⟨by first|exact Kd.R_nil _ _ _ _ _|exact Kd.N_nil _ _ _ _ _|exact Kd.V_nil _ _ _ _ _|exact Kd.Q_nil _ _ _ _ _|exact Kd.S_nil _ _ _ _ _⟩,⟨qk_ m⟩,⟨qB_⟩⟩
 case round=>
  clear H' a0 a1 a2 a3
  obtain⟨d,c,rfl,HA,HK1,y,m,HB⟩:=hrel
  cases gk with
  |zero=>exact absurd HA.out (by simp [impl_treeEdges.l0])
  |succ U=>
   have H:=HA.out;clear HA
   simp only[impl_treeEdges.l0]at H
   refine ib_ H ?_ ?_<;>clear H<;>intro V H
   ·obtain rfl:=oi_ H
    go_wp2
    go_ret
    exact⟨_,qr_,qR_ y,qB_⟩
   refine ig_ H ?_;clear H;intro X H
   refine ig_ H ?_;clear H;intro Y H
   generalize A:((rd_T72 a c).f3)=a4 at H;have B:=am_ A.symm;clear A
   refine id_ H ?_ ?_<;>clear H<;>rintro rfl H
   ·have H' :=am_ H;clear H
    have q:=dt_ c
    have s:=du_ c a.length
    obtain⟨u,v,I,J,L,E⟩:=at_T72 n.out c (ot_ q) (ot_ s)
    rw[←B.out]at E
    cases v
    replace I:=qx_ HB I
    replace J:=qx_ HB J
    replace L:=qx_ HB L
    replace E:=qx_ HB E
    go_wp2_with (first|((with_reducible refine gd_ 5 ?_);refine by_ 5 (cs:= #[.int .i64 0,.int .i64 0,.int .i64 0,.bool false]) (t:=72) ?_;intro z hg a5 D hb;have a6:=gw_ hg;obtain⟨a7,O⟩:=qn_ m hg;replace y:=kb_ y hb;replace m:=qbl_ m hb;replace HB:=hs_ hb;clear hb hg;obtain⟨b5,b6⟩:=nn_ O;obtain⟨b7,b8,b9,c0,c1,c2,c3,c4⟩:=bc4_ D))
    go_roundg U
    case measure=>have:=HK1.out;omega
    case rel=>exact⟨(d),(wrap64 (c + 1)),qe_,H',⟨by have:=HK1.out;omega⟩,⟨by(with_reducible repeat(first|apply Kd.R_alloc|apply Kd.R_drewN|apply Kd.R_drew));exact Kd.R_mono (Kd.R_far (p:=⟨z,3,none⟩) (Kd.R_far (p:=⟨z,2,none⟩) (Kd.R_far (p:=⟨z,1,none⟩) (Kd.R_far (p:=⟨z,0,none⟩) (Kd.R_types y.out D.out (by decide)) (fun _ hk=>hk.2) (.int .i64 ((rd_T72 a c).f0))) (fun _ hk=>hk.2) (.int .i64 ((rd_T72 a c).f1))) (fun _ hk=>hk.2) (.int .i64 ((rd_T72 a c).f2))) (fun _ hk=>hk.2) (.bool false)) (fun _ hk=>trivial)⟩,⟨qf_ m⟩,⟨qB_⟩⟩
   refine jg_ H ?_;clear H;intro Z H
   have M:=am_ Z
   clear Z
   generalize x:(d++[(⟨(rd_T72 a c).f0,(rd_T72 a c).f1⟩:S43)])=a8 at H;replace H:=bh_ H;have F:=am_ x.symm;clear x;have H' :=am_ H;clear H
   have q:=dt_ c
   have s:=du_ c a.length
   obtain⟨u,v,I,J,L,E⟩:=at_T72 n.out c (ot_ q) (ot_ s)
   rw[←B.out]at E
   cases v
   replace I:=qx_ HB I
   replace J:=qx_ HB J
   replace L:=qx_ HB L
   replace E:=qx_ HB E
   go_wp2_with (first|((with_reducible refine gd_ 5 ?_);refine by_ 5 (cs:= #[.int .i64 0,.int .i64 0,.int .i64 0,.bool false]) (t:=72) ?_;intro z hg a9 D hb;have a6:=gw_ hg;obtain⟨a7,O⟩:=qn_ m hg;replace y:=kb_ y hb;replace m:=qbl_ m hb;replace HB:=hs_ hb;clear hb hg;obtain⟨c5,c6⟩:=nn_ O;obtain⟨c7,c8,c9,d0,d1,d2,d3,d4⟩:=bc4_ D)|((with_reducible refine gate_builtin (b:= .append) (xs:= #[.tmp 15,.tmp 21]) rfl ?_);at_builtin;refine Kd.R_append k43 (w0:=w) w.heap.size rfl (.tmp 15) (.tmp 21) 67 43 (.agg #[(.int .i64 0),(.int .i64 0)]) 16 rfl Try.underlying67 info43 rfl (by decide) (by omega) u3 d (⟨(rd_T72 a c).f0,(rd_T72 a c).f1⟩:S43) [.int .i64 ((rd_T72 a c).f0),.int .i64 ((rd_T72 a c).f1)] (fun _=>True) (fun _=>False) rfl (by first|(go_simp;done)|(go_simp;rfl)) ?aP (fun _ hk=>hk.elim) ?aF ?aO ?aB ?aS ?aL ?_;(case aP=>exact k43_mkM _ _ _ (⟨(rd_T72 a c).f0,(rd_T72 a c).f1⟩:S43));(case aB=>exact qB_);(case aF=>exact(fun _ _=>trivial));(case aO=>exact(by(with_reducible repeat(first|apply Kd.R_alloc|apply Kd.R_drewN|apply Kd.R_drew));exact Kd.R_mono (Kd.R_far (p:=⟨z,3,none⟩) (Kd.R_far (p:=⟨z,2,none⟩) (Kd.R_far (p:=⟨z,1,none⟩) (Kd.R_far (p:=⟨z,0,none⟩) (Kd.R_types y.out D.out (by decide)) (fun _ hk=>hk.2) (.int .i64 ((rd_T72 a c).f0))) (fun _ hk=>hk.2) (.int .i64 ((rd_T72 a c).f1))) (fun _ hk=>hk.2) (.int .i64 ((rd_T72 a c).f2))) (fun _ hk=>hk.2) (.bool true)) (fun _ hk=>trivial)));(case aS=>exact(below_size qB_));(case aL=>have:=M.out;omega);intro d5 b0 ho hb hg hat;rw[←F.out]at ho;have b1:=am_ (ho);replace m:=am_ (blk_grown (g:=T) (o:= .cells #[.int .i64 i,.slice (some u) a.length j] 29 (0,0)) (qf_ m) hg (Kd.R_ne y.out m.out (by decide)));replace D:=am_ (blk_grown (g:=z) (o:= .cells #[.int .i64 ((rd_T72 a c).f0),.int .i64 ((rd_T72 a c).f1),.int .i64 ((rd_T72 a c).f2),.bool true] 72 (0,0)) (qp_ D) hg (Kd.R_ne y.out D.out (by decide)));replace HB:=am_ (hb);clear y ho hb hg hat))
   go_roundg U
   case measure=>have:=HK1.out;omega
   case rel=>exact⟨(a8),(wrap64 (c + 1)),qe_,H',⟨by have:=HK1.out;omega⟩,⟨ra_ b1⟩,⟨qk_ m⟩,⟨qB_⟩⟩
end Go.Proofs.Ytbkklafkoegdpaa.QFnTakes

import Derived.Test.YtbkklafkoegdpaaQFnTakesx5
namespace Go.Proofs.Ytbkklafkoegdpaa.QFnTakes
open Go.RowKit Go.Proofs.YtbkklafkoegdpaaW.PrintWords Go.Proofs.YtbkklafkoegdpaaW.PrintLast Go.Proofs.YtbkklafkoegdpaaW.PrintMore
attribute [local go_sem] max2_int min2_int max_two min_two max_three min_three max_four min_four
set_option maxHeartbeats 8000000
set_option maxRecDepth 100000
set_option linter.unusedVariables false
set_option linter.unusedSimpArgs false
def impl_forest.l0:Nat→Int→List (S43)→List (S72)→Int→Int→Option ((List (S43)))
  |0,_,_,_,_,_=>none
  |k + 1,x1,x5,x9,x10,x11=>if x11<x10 then (if 0≤x11 then (if x11<(x9.length:Int) then (if (rd_T72 x9 x11).f3=true then (if ((rd_T72 x9 x11).f2)≥x1 then (if x5.length<8796093022208 then (impl_forest.l0 k x1 (x5++[(⟨(rd_T72 x9 x11).f0,(rd_T72 x9 x11).f1⟩:S43)]) x9 x10 (wrap64 (x11 + 1))) else (none)) else (impl_forest.l0 k x1 x5 x9 x10 (wrap64 (x11 + 1)))) else (impl_forest.l0 k x1 x5 x9 x10 (wrap64 (x11 + 1)))) else (none)) else (none)) else (some x5)
def impl_forest.f (k:Nat) (a0_0:Int) (l0_1:List (S72)) (a1:Int):Option ((List (S43))):=impl_forest.l0 k a1 ([]:List (S43)) l0_1 (l0_1.length:Int) 0
theorem impl_forest.calls (k:Nat) (j:Int) (x:Option Addr) (l:Nat) (c:List (S72)) (O:Int) (r:List (S43)) (w:World) (hr0_1:Kd.C k72 w x c.length c) (hc0_1:c.length≤l) (h:impl_forest.f k j c O=some r):
  Calls Try.prog 102 #[.agg #[.int .i64 j,.slice x c.length l],.int .i64 O] w fun e w' =>∃ T:Value,e= .returned (T)∧Kd.R k43 43 w' w.heap.size (fun _=>True) T r∧Below w.heap.size w w' :=by
 have hu29:=Try.underlying29;have hu72:=Try.underlying72;have hu43:=Try.underlying43
 have s:=am_ hr0_1
 have X:=am_ hc0_1
 clear hr0_1 hc0_1
 have HB:=am_ (Below.refl w.heap.size w)
 rw[impl_forest.f]at h;have H:=h;clear h;have H' :=am_ H;clear H
 go_enter Try.func102,Try.ntmps102
 go_wp2_with (first|((with_reducible refine gd_ 2 ?_);refine by_ 2 (cs:= #[.int .i64 j,.slice x c.length l]) (t:=29) ?_;intro Z hg b6 i hb;have b7:=gw_ hg;replace HB:=hs_ hb;clear hb hg;obtain⟨a5,a6,a7,a8⟩:=bc2_ i))
 go_loopg [5,11] k (fun kq v5 v11 w' =>∃ (d:List (S43)) (a:Int),v11= .int .i64 a∧Aside0 (impl_forest.l0 kq O d c (c.length:Int) a=some r)∧Aside0 (kq≤k)∧Aside0 (Kd.R k43 43 w' w.heap.size (fun _=>True) v5 d)∧Aside0 (w'.heap[Z]? =some (.cells #[.int .i64 j,(.slice x c.length l)] 29 (0,0)))∧Aside0 (Below w.heap.size w w'))
 case atStart=>exact⟨(([]:List (S43))),(0),qe_,H',⟨Nat.le_refl _⟩,⟨by first|exact Kd.R_nil _ _ _ _ _|exact Kd.N_nil _ _ _ _ _|exact Kd.V_nil _ _ _ _ _|exact Kd.Q_nil _ _ _ _ _|exact Kd.S_nil _ _ _ _ _⟩,⟨qk_ i⟩,⟨qB_⟩⟩
 case round=>
  clear H'
  (try clear b8);clear a5 a6 a7 a8
  obtain⟨d,a,rfl,HA,HK1,y,i,HB⟩:=hrel
  cases gk with
  |zero=>exact absurd HA.out (by simp [impl_forest.l0])
  |succ Y=>
   have H:=HA.out;clear HA
   simp only[impl_forest.l0]at H
   refine ib_ H ?_ ?_<;>clear H<;>intro a0 H
   ·obtain rfl:=oi_ H
    go_wp2
    go_ret
    exact⟨_,qr_,qR_ y,qB_⟩
   refine ig_ H ?_;clear H;intro a1 H
   refine ig_ H ?_;clear H;intro a2 H
   generalize F:((rd_T72 c a).f3)=a9 at H;have z:=am_ F.symm;clear F
   refine id_ H ?_ ?_<;>clear H<;>rintro rfl H
   ·have H' :=am_ H;clear H
    have m:=dt_ a
    have n:=du_ a c.length
    obtain⟨u,q,G,I,J,A⟩:=at_T72 s.out a (ot_ m) (ot_ n)
    rw[←z.out]at A
    cases q
    replace G:=qx_ HB G
    replace I:=qx_ HB I
    replace J:=qx_ HB J
    replace A:=qx_ HB A
    go_wp2_with (first|((with_reducible refine gd_ 7 ?_);refine by_ 7 (cs:= #[.int .i64 0,.int .i64 0,.int .i64 0,.bool false]) (t:=72) ?_;intro v hg b0 B hb;have a3:=gw_ hg;obtain⟨a4,U⟩:=qn_ i hg;replace y:=kb_ y hb;replace i:=qbl_ i hb;replace HB:=hs_ hb;clear hb hg;obtain⟨c0,c1⟩:=nn_ U;obtain⟨c2,c3,c4,c5,c6,c7,c8,c9⟩:=bc4_ B))
    go_roundg Y
    case measure=>have:=HK1.out;omega
    case rel=>exact⟨(d),(wrap64 (a + 1)),qe_,H',⟨by have:=HK1.out;omega⟩,⟨by(with_reducible repeat(first|apply Kd.R_alloc|apply Kd.R_drewN|apply Kd.R_drew));exact Kd.R_mono (Kd.R_far (p:=⟨v,3,none⟩) (Kd.R_far (p:=⟨v,2,none⟩) (Kd.R_far (p:=⟨v,1,none⟩) (Kd.R_far (p:=⟨v,0,none⟩) (Kd.R_types y.out B.out (by decide)) (fun _ hk=>hk.2) (.int .i64 ((rd_T72 c a).f0))) (fun _ hk=>hk.2) (.int .i64 ((rd_T72 c a).f1))) (fun _ hk=>hk.2) (.int .i64 ((rd_T72 c a).f2))) (fun _ hk=>hk.2) (.bool false)) (fun _ hk=>trivial)⟩,⟨qf_ i⟩,⟨qB_⟩⟩
   refine jb_ H ?_ ?_<;>clear H<;>intro E H
   ·have L:decide (O≤((rd_T72 c a).f2))=false:=decide_eq_false E
    clear E;have H' :=am_ H;clear H
    have m:=dt_ a
    have n:=du_ a c.length
    obtain⟨u,q,G,I,J,A⟩:=at_T72 s.out a (ot_ m) (ot_ n)
    rw[←z.out]at A
    cases q
    replace G:=qx_ HB G
    replace I:=qx_ HB I
    replace J:=qx_ HB J
    replace A:=qx_ HB A
    go_wp2_with (first|((with_reducible refine gd_ 7 ?_);refine by_ 7 (cs:= #[.int .i64 0,.int .i64 0,.int .i64 0,.bool false]) (t:=72) ?_;intro v hg b1 B hb;have a3:=gw_ hg;obtain⟨a4,U⟩:=qn_ i hg;replace y:=kb_ y hb;replace i:=qbl_ i hb;replace HB:=hs_ hb;clear hb hg;obtain⟨d0,d1⟩:=nn_ U;obtain⟨d2,d3,d4,d5,d6,d7,d8,d9⟩:=bc4_ B))
    go_roundg Y
    case measure=>have:=HK1.out;omega
    case rel=>exact⟨(d),(wrap64 (a + 1)),qe_,H',⟨by have:=HK1.out;omega⟩,⟨by(with_reducible repeat(first|apply Kd.R_alloc|apply Kd.R_drewN|apply Kd.R_drew));exact Kd.R_mono (Kd.R_far (p:=⟨v,3,none⟩) (Kd.R_far (p:=⟨v,2,none⟩) (Kd.R_far (p:=⟨v,1,none⟩) (Kd.R_far (p:=⟨v,0,none⟩) (Kd.R_types y.out B.out (by decide)) (fun _ hk=>hk.2) (.int .i64 ((rd_T72 c a).f0))) (fun _ hk=>hk.2) (.int .i64 ((rd_T72 c a).f1))) (fun _ hk=>hk.2) (.int .i64 ((rd_T72 c a).f2))) (fun _ hk=>hk.2) (.bool true)) (fun _ hk=>trivial)⟩,⟨qf_ i⟩,⟨qB_⟩⟩
   have L:decide (O≤((rd_T72 c a).f2))=true:=decide_eq_true E
   clear E
   refine jg_ H ?_;clear H;intro V H
   have M:=am_ V
   clear V
   generalize D:(d++[(⟨(rd_T72 c a).f0,(rd_T72 c a).f1⟩:S43)])=b2 at H;replace H:=bh_ H;have N:=am_ D.symm;clear D;have H' :=am_ H;clear H
   have m:=dt_ a
   have n:=du_ a c.length
   obtain⟨u,q,G,I,J,A⟩:=at_T72 s.out a (ot_ m) (ot_ n)
   rw[←z.out]at A
   cases q
   replace G:=qx_ HB G
   replace I:=qx_ HB I
   replace J:=qx_ HB J
   replace A:=qx_ HB A
   go_wp2_with (first|((with_reducible refine gd_ 7 ?_);refine by_ 7 (cs:= #[.int .i64 0,.int .i64 0,.int .i64 0,.bool false]) (t:=72) ?_;intro v hg b3 B hb;have a3:=gw_ hg;obtain⟨a4,U⟩:=qn_ i hg;replace y:=kb_ y hb;replace i:=qbl_ i hb;replace HB:=hs_ hb;clear hb hg;obtain⟨e0,e1⟩:=nn_ U;obtain⟨e2,e3,e4,e5,e6,e7,e8,e9⟩:=bc4_ B)|((with_reducible refine gate_builtin (b:= .append) (xs:= #[.tmp 23,.tmp 29]) rfl ?_);at_builtin;refine Kd.R_append k43 (w0:=w) w.heap.size rfl (.tmp 23) (.tmp 29) 67 43 (.agg #[(.int .i64 0),(.int .i64 0)]) 16 rfl Try.underlying67 info43 rfl (by decide) (by omega) u5 d (⟨(rd_T72 c a).f0,(rd_T72 c a).f1⟩:S43) [.int .i64 ((rd_T72 c a).f0),.int .i64 ((rd_T72 c a).f1)] (fun _=>True) (fun _=>False) rfl (by first|(go_simp;done)|(go_simp;rfl)) ?aP (fun _ hk=>hk.elim) ?aF ?aO ?aB ?aS ?aL ?_;(case aP=>exact k43_mkM _ _ _ (⟨(rd_T72 c a).f0,(rd_T72 c a).f1⟩:S43));(case aB=>exact qB_);(case aF=>exact(fun _ _=>trivial));(case aO=>exact(by(with_reducible repeat(first|apply Kd.R_alloc|apply Kd.R_drewN|apply Kd.R_drew));exact Kd.R_mono (Kd.R_far (p:=⟨v,3,none⟩) (Kd.R_far (p:=⟨v,2,none⟩) (Kd.R_far (p:=⟨v,1,none⟩) (Kd.R_far (p:=⟨v,0,none⟩) (Kd.R_types y.out B.out (by decide)) (fun _ hk=>hk.2) (.int .i64 ((rd_T72 c a).f0))) (fun _ hk=>hk.2) (.int .i64 ((rd_T72 c a).f1))) (fun _ hk=>hk.2) (.int .i64 ((rd_T72 c a).f2))) (fun _ hk=>hk.2) (.bool true)) (fun _ hk=>trivial)));(case aS=>exact(below_size qB_));(case aL=>have:=M.out;omega);intro f4 b4 ho hb hg hat;rw[←N.out]at ho;have b5:=am_ (ho);replace i:=am_ (blk_grown (g:=Z) (o:= .cells #[.int .i64 j,.slice (some u) c.length l] 29 (0,0)) (qf_ i) hg (Kd.R_ne y.out i.out (by decide)));replace B:=am_ (blk_grown (g:=v) (o:= .cells #[.int .i64 ((rd_T72 c a).f0),.int .i64 ((rd_T72 c a).f1),.int .i64 ((rd_T72 c a).f2),.bool true] 72 (0,0)) (qp_ B) hg (Kd.R_ne y.out B.out (by decide)));replace HB:=am_ (hb);clear y ho hb hg hat))
   go_roundg Y
   case measure=>have:=HK1.out;omega
   case rel=>exact⟨(b2),(wrap64 (a + 1)),qe_,H',⟨by have:=HK1.out;omega⟩,⟨ra_ b5⟩,⟨qk_ i⟩,⟨qB_⟩⟩
def impl_labelsAt.l0:Nat→List Int→List (S43)→Int→Int→Option (List Int)
  |0,_,_,_,_=>none
  |k + 1,x5,x13,x14,x15=>if x15<x14 then (if 0≤x15 then (if x15<(x13.length:Int) then ((impl_union.f k x5 ((rd_T43 x13 x15).f0) ((rd_T43 x13 x15).f1)).bind fun bt158=>(impl_labelsAt.l0 k bt158.2 x13 x14 (wrap64 (x15 + 1)))) else (none)) else (none)) else (some x5)
def impl_labelsAt.f (k:Nat) (a0_0:Int) (l0_1:List (S72)) (a1:Int):Option (List Int):=(impl_first.f k a0_0).bind fun t150=>((impl_forest.f k a0_0 l0_1 a1).bind fun t153=>(impl_labelsAt.l0 k t150 t153 (t153.length:Int) 0))
theorem impl_labelsAt.calls (k:Nat) (d:Int) (i:Option Addr) (j:Nat) (c:List (S72)) (N:Int) (r:List Int) (w:World) (hr0_1:Kd.C k72 w i c.length c) (hc0_1:c.length≤j) (h:impl_labelsAt.f k d c N=some r):
  Calls Try.prog 67 #[.agg #[.int .i64 d,.slice i c.length j],.int .i64 N] w fun e w' =>∃ A:Value,e= .returned (A)∧Kd.R (Kd.int .i64) 3 w' w.heap.size (fun _=>True) A r∧Below w.heap.size w w' :=by
 have hu29:=Try.underlying29;have hu43:=Try.underlying43
 have x:=am_ hr0_1
 have y:=am_ hc0_1
 clear hr0_1 hc0_1
 have HB:=am_ (Below.refl w.heap.size w)
 rw[impl_labelsAt.f]at h;have H:=h;clear h
 obtain⟨a1,a8,H⟩:=bs_ H
 obtain⟨l,a9,H⟩:=bs_ H
 have H' :=am_ H;clear H
 go_enter Try.func67,Try.ntmps67
 go_wp2_with (first|((with_reducible refine gd_ 2 ?_);refine by_ 2 (cs:= #[.int .i64 d,.slice i c.length j]) (t:=29) ?_;intro a2 hg c7 m hb;have b0:=gw_ hg;replace HB:=hs_ hb;clear hb hg;obtain⟨b1,b2,b3,b4⟩:=bc2_ m)|((with_reducible refine gc_ 112 ?_);refine gl_ (some 10) Try.func112 #[.int .i64 d] ?_;(with_reducible refine(impl_first.calls k d a1 _ a8.out).mono ?_);rintro e c8 ⟨a3,rfl,ho0,hb⟩;refine⟨_,rfl,?_⟩;have O:=am_ (Kd.R_lower ho0 (below_size qB_));replace m:=qbl_ m hb;replace HB:=hs_ hb;clear hb ho0;obtain⟨b5,b6,b7,b8⟩:=bc2_ m)|((with_reducible refine gc_ 102 ?_);refine gl_ (some 13) Try.func102 #[.agg #[.int .i64 d,.slice i c.length j],.int .i64 N] ?_;(with_reducible refine(impl_forest.calls k d _ _ c N l _ ?_ ?_ a9.out).mono ?_);exact qC_ x HB;exact y.out;rintro e c9 ⟨d0,rfl,ho0,hb⟩;refine⟨_,rfl,?_⟩;have a4:=am_ (Kd.R_lower ho0 (below_size qB_));replace O:=kb_ O hb;replace m:=qbl_ m hb;replace HB:=hs_ hb;clear hb ho0;obtain⟨b9,a5,c0⟩:=Kd.R_slice a4.out;subst c0))
 go_loopg [15] k (fun kq v15 w' =>∃ (g:List Int) (a:Int),v15= .int .i64 a∧Aside0 (impl_labelsAt.l0 kq g l (l.length:Int) a=some r)∧Aside0 (kq≤k)∧Aside0 (Kd.R (Kd.int .i64) 3 w' w.heap.size (fun _=>True) a3 g)∧Aside0 (Kd.R k43 43 w' w.heap.size (fun _=>True) (.slice b9 l.length a5) l)∧Aside0 (w'.heap[a2]? =some (.cells #[.int .i64 d,(.slice i c.length j)] 29 (0,0)))∧Aside0 (Below w.heap.size w w'))
 case atStart=>exact⟨(a1),(0),qe_,H',⟨Nat.le_refl _⟩,⟨ra_ O⟩,⟨ra_ a4⟩,⟨qk_ m⟩,⟨qB_⟩⟩
 case round=>
  clear H' b1 b2 b5 b6 b3 b4 b7 b8
  obtain⟨g,a,rfl,HA,HK1,n,s,m,HB⟩:=hrel
  cases gk with
  |zero=>exact absurd HA.out (by simp [impl_labelsAt.l0])
  |succ a6=>
   have H:=HA.out;clear HA
   simp only[impl_labelsAt.l0]at H
   refine ib_ H ?_ ?_<;>clear H<;>intro T H
   ·obtain rfl:=oi_ H
    go_wp2
    go_ret
    exact⟨_,qr_,qR_ n,qB_⟩
   refine ig_ H ?_;clear H;intro U H
   refine ig_ H ?_;clear H;intro V H
   obtain⟨⟨c2,a7⟩,X,H⟩:=bs_ H;dsimp only at H;have H' :=am_ H;clear H
   have B:=dt_ a
   have D:=du_ a l.length
   obtain⟨z,E,d4,d5⟩:=at_T43 (Kd.R_reads' s.out).2.2 a (ot_ B) (ot_ D)
   cases E
   go_wp2_with (first|((with_reducible refine gd_ 7 ?_);refine by_ 7 (cs:= #[.int .i64 0,.int .i64 0]) (t:=43) ?_;intro o hg Y u hb;have c3:=gw_ hg;obtain⟨d6,c4⟩:=qn_ m hg;replace n:=kb_ n hb;replace s:=am_ (Kd.R_below (Kd.R_elderB (qR_ s) o (Nat.le_of_eq hg.symm)) hb);replace m:=qbl_ m hb;replace HB:=hs_ hb;clear hb hg;obtain⟨d7,d8⟩:=nn_ c4;obtain⟨d9,e0,e1,e2⟩:=bc2_ u)|((with_reducible refine gate_store (t:=43) (p:=7) rfl ?_);refine store_event (t:=43) (p:=7) (v:= ?vo_w18) (w1:=((Y.setCell ⟨o,0,none⟩ (.int .i64 ((rd_T43 l a).f0))).setCell ⟨o,1,none⟩ (.int .i64 ((rd_T43 l a).f1)))) ?hg ?ho ?hn ?hr ?_;(case ho=>rfl);(case hg=>rfl);(case hn=>rfl);(case hr=>first|(go_simp;done)|(go_simp;rfl));intro q hw;have F:Aside0 (Kd.R (Kd.int .i64) 3 q w.heap.size (fun _=>True) a3 g):=⟨(by rw[hw];exact(by(with_reducible repeat(first|apply Kd.R_alloc|apply Kd.R_drewN|apply Kd.R_drew));exact Kd.R_mono (Kd.R_far (p:=⟨o,1,none⟩) (Kd.R_far (p:=⟨o,0,none⟩) (Kd.R_types n.out u.out (by decide)) (fun _ hk=>hk.2) (.int .i64 ((rd_T43 l a).f0))) (fun _ hk=>hk.2) (.int .i64 ((rd_T43 l a).f1))) (fun _ hk=>trivial)))⟩;have G:Aside0 (Kd.R k43 43 q w.heap.size (fun k_=>k_≠o) (.slice (some z) l.length a5) l):=⟨(by rw[hw];exact(by(with_reducible repeat(first|apply Kd.R_alloc|apply Kd.R_drewN|apply Kd.R_drew));exact Kd.R_mono (Kd.R_far (p:=⟨o,1,none⟩) (Kd.R_far (p:=⟨o,0,none⟩) (Kd.R_mono s.out (fun k_ hk=>(⟨hk,hk.2⟩:_∧k_≠o))) (fun _ hk=>hk.2) (.int .i64 ((rd_T43 l a).f0))) (fun _ hk=>hk.2) (.int .i64 ((rd_T43 l a).f1))) (fun _ hk=>hk.1.2)))⟩;have I:Aside0 (q.heap[a2]? =some (.cells #[.int .i64 d,.slice i c.length j] 29 (0,0))):=⟨(by rw[hw];exact(qf_ m))⟩;have J:Aside0 (q.heap[o]? =some (.cells #[.int .i64 ((rd_T43 l a).f0),.int .i64 ((rd_T43 l a).f1)] 43 (0,0))):=⟨(by rw[hw];exact(qp_ u))⟩;have L:Aside0 (Below w.heap.size w q):=⟨(by rw[hw];exact qB_)⟩;clear hw n s m u HB;have n:=F;have s:=G;have m:=I;have u:=J;have HB:=L;clear F G I J L;obtain⟨e3,e4,e5,e6⟩:=bc2_ u;obtain⟨Z,a0,c5⟩:=Kd.R_slice n.out;subst c5)|((with_reducible refine gc_ 113 ?_);refine gl_ (some 24) Try.func113 #[.slice Z g.length a0,.int .i64 ((rd_T43 l a).f0),.int .i64 ((rd_T43 l a).f1)] ?_;(with_reducible refine(impl_union.calls a6 (fun k_=>some k_=(.slice Z g.length a0:Value).ownBlock) (.slice Z g.length a0) g ((rd_T43 l a).f0) ((rd_T43 l a).f1) c2 a7 w _ ?side1 ?side2 X.out).mono ?_);(case side1=>exact qB_);(case side2=>exact Kd.R_tight rfl n.out);rintro e c6 ⟨rfl,M,hb,hkp⟩;refine⟨_,rfl,?_⟩;refine dn5_ (am_ (Kd.R_reok rfl M (fun k_ e_=>n.out.1 k_ e_))) (am_ (Kd.R_mono (ok' :=fun k_=>k_≠o) (Kd.R_keptB ((Kd.R_apart' s.out (Kd.R_typed n.out) (by decide))) hkp (fun k_ hk_ hs_=>(hk_.2) hs_)) (fun k_ hk_=>hk_.1.1))) (qkp_ m hkp (fun hs_=>(fun e_=>(Kd.R_ne n.out m.out (by decide)) e_) hs_)) (qkp_ u hkp (fun hs_=>(fun e_=>(Kd.R_ne n.out u.out (by decide)) e_) hs_)) (am_ (hb)) ?_;clear n s m u HB;intro n s m u HB;clear hb hkp M))
   go_roundg a6
   case measure=>have:=HK1.out;omega
   case rel=>exact⟨(a7),(wrap64 (a + 1)),qe_,H',⟨by have:=HK1.out;omega⟩,⟨ra_ n⟩,⟨by(with_reducible repeat(first|apply Kd.R_alloc|apply Kd.R_drewN|apply Kd.R_drew));exact Kd.R_mono s.out (fun _ hk=>trivial)⟩,⟨qk_ m⟩,⟨qB_⟩⟩
def impl_sizes.l0:Nat→Int→Int→List Int→Int→Int→Option (Int)
  |0,_,_,_,_,_=>none
  |k + 1,x1,x5,x8,x9,x10=>if x10<x9 then (if 0≤x10 then (if x10<(x8.length:Int) then (if (rd x8 x10)=x1 then (impl_sizes.l0 k x1 (wrap64 (x5 + 1)) x8 x9 (wrap64 (x10 + 1))) else (impl_sizes.l0 k x1 x5 x8 x9 (wrap64 (x10 + 1)))) else (none)) else (none)) else (some x5)
def impl_sizes.f (k:Nat) (l0:List Int) (a1:Int):Option (Int):=impl_sizes.l0 k a1 0 l0 (l0.length:Int) 0
theorem impl_sizes.calls (k:Nat) (p:Option Addr) (q:Nat) (l0:List Int) (j:Int) (r:Int) (w:World) (hr0:Kd.C (Kd.int .i64) w p l0.length l0) (hc0:l0.length≤q) (h:impl_sizes.f k l0 j=some r):
  Calls Try.prog 114 #[.slice p l0.length q,.int .i64 j] w fun e w' =>e= .returned (.int .i64 r)∧Drawn0 w w' :=by
 have s:=am_ hr0
 have z:=am_ hc0
 clear hr0 hc0
 rw[impl_sizes.f]at h;have H:=h;clear h;have H' :=am_ H;clear H
 go_enter Try.func114,Try.ntmps114
 go_wp2
 go_loopg [5,10] k (fun kq v5 v10 w' =>∃ (c:Int) (a:Int),v5= .int .i64 c∧v10= .int .i64 a∧Aside0 (impl_sizes.l0 kq j c l0 (l0.length:Int) a=some r)∧Aside0 (kq≤k)∧Drawn0 w w')
 case atStart=>exact⟨(0),(0),qe_,qe_,H',⟨Nat.le_refl _⟩,by repeat(first|exact Drawn0.refl _|apply Drawn0.step)⟩
 case round=>
  clear H'
  obtain⟨c,a,rfl,rfl,HA,HK1,⟨D,rfl⟩⟩:=hrel
  cases gk with
  |zero=>exact absurd HA.out (by simp [impl_sizes.l0])
  |succ t=>
   have H:=HA.out;clear HA
   simp only[impl_sizes.l0]at H
   refine ib_ H ?_ ?_<;>clear H<;>intro u H
   ·obtain rfl:=oi_ H
    go_wp2
    go_ret
    exact⟨by first|rfl|(simp;done)|(simp [*];done),by repeat(first|exact Drawn0.refl _|apply Drawn0.step)⟩
   refine ig_ H ?_;clear H;intro v H
   refine ig_ H ?_;clear H;intro x H
   refine jc_ H ?_ ?_<;>clear H<;>intro m H
   ·have n:((rd l0 a)==j)=true:=beq_iff_eq.mpr m
    have o:((rd l0 a) != j)=false:=bne_eq_false_iff_eq.mpr m
    clear m;have H' :=am_ H;clear H
    have d:=dt_ a
    have g:=du_ a l0.length
    obtain⟨l,i,y⟩:=Kd.at_int s.out a (ot_ d) (ot_ g)
    cases i
    go_wp2
    go_roundg t
    case measure=>have:=HK1.out;omega
    case rel=>exact⟨(wrap64 (c + 1)),(wrap64 (a + 1)),qe_,qe_,H',⟨by have:=HK1.out;omega⟩,by repeat(first|exact Drawn0.refl _|apply Drawn0.step)⟩
   have n:((rd l0 a)==j)=false:=beq_eq_false_iff_ne.mpr m
   have o:((rd l0 a) != j)=true:=bne_iff_ne.mpr m
   have H' :=am_ H;clear H
   have d:=dt_ a
   have g:=du_ a l0.length
   obtain⟨l,i,y⟩:=Kd.at_int s.out a (ot_ d) (ot_ g)
   cases i
   go_wp2
   go_roundg t
   case measure=>have:=HK1.out;omega
   case rel=>exact⟨(c),(wrap64 (a + 1)),qe_,qe_,H',⟨by have:=HK1.out;omega⟩,by repeat(first|exact Drawn0.refl _|apply Drawn0.step)⟩
def impl_levelOk.l0:Nat→Int→List Int→List (S43)→Int→Int→Int→List (S72)→Option (Bool)
  |0,_,_,_,_,_,_,_=>none
  |k + 1,x1,x5,x13,x14,x15,x162000,x162001=>if x15<x14 then (if 0≤x15 then (if x15<(x13.length:Int) then (if 0≤((rd_T43 x13 x15).f0) then (if ((rd_T43 x13 x15).f0)<(x5.length:Int) then ((impl_sizes.f k x5 (rd x5 ((rd_T43 x13 x15).f0))).bind fun t171=>(if 0≤x1 then (if t171>(shr .i64 x162000 x1) then (some false) else (impl_levelOk.l0 k x1 x5 x13 x14 (wrap64 (x15 + 1)) x162000 x162001)) else (none))) else (none)) else (none)) else (none)) else (none)) else (some true)
def impl_levelOk.f (k:Nat) (a0_0:Int) (l0_1:List (S72)) (a1:Int):Option (Bool):=(impl_labelsAt.f k a0_0 l0_1 a1).bind fun t162=>((impl_forest.f k a0_0 l0_1 a1).bind fun t165=>(impl_levelOk.l0 k a1 t162 t165 (t165.length:Int) 0 a0_0 l0_1))
theorem impl_levelOk.calls (k:Nat) (i:Int) (D:Option Addr) (E:Nat) (j:List (S72)) (I:Int) (r:Bool) (w:World) (hr0_1:Kd.C k72 w D j.length j) (hc0_1:j.length≤E) (h:impl_levelOk.f k i j I=some r):
  Calls Try.prog 68 #[.agg #[.int .i64 i,.slice D j.length E],.int .i64 I] w fun e w' =>e= .returned (.bool r)∧Below w.heap.size w w' :=by
 have hu29:=Try.underlying29;have hu43:=Try.underlying43
 have q:=am_ hr0_1
 have s:=am_ hc0_1
 clear hr0_1 hc0_1
 have HB:=am_ (Below.refl w.heap.size w)
 rw[impl_levelOk.f]at h;have H:=h;clear h
 obtain⟨u,a7,H⟩:=bs_ H
 obtain⟨d,a8,H⟩:=bs_ H
 have H' :=am_ H;clear H
 go_enter Try.func68,Try.ntmps68
 go_wp2_with (first|((with_reducible refine gd_ 2 ?_);refine by_ 2 (cs:= #[.int .i64 i,.slice D j.length E]) (t:=29) ?_;intro c7 hg e3 m hb;have e4:=gw_ hg;replace HB:=hs_ hb;clear hb hg;obtain⟨c8,c9,d0,d1⟩:=bc2_ m)|(go_at_call 67;(with_reducible refine(impl_labelsAt.calls k i _ _ j I u _ ?_ ?_ a7.out).mono ?_);exact qC_ q HB;exact s.out;rintro e d2 ⟨a9,rfl,ho0,hb⟩;have O:=am_ (Kd.R_lower ho0 (below_size qB_));replace m:=qbl_ m hb;replace HB:=hs_ hb;clear hb ho0;obtain⟨b0,b1,b2,b3⟩:=bc2_ m)|(go_at_call 102;(with_reducible refine(impl_forest.calls k i _ _ j I d _ ?_ ?_ a8.out).mono ?_);exact qC_ q HB;exact s.out;rintro e d3 ⟨d4,rfl,ho0,hb⟩;have a3:=am_ (Kd.R_lower ho0 (below_size qB_));replace O:=kb_ O hb;replace m:=qbl_ m hb;replace HB:=hs_ hb;clear hb ho0;obtain⟨b4,b5,a4⟩:=Kd.R_slice a3.out;subst a4))
 repeat(go_quiet (first|(go_at_call 67;(with_reducible refine(impl_labelsAt.calls k i _ _ j I u _ ?_ ?_ a7.out).mono ?_);exact qC_ q HB;exact s.out;rintro e d2 ⟨a9,rfl,ho0,hb⟩;have O:=am_ (Kd.R_lower ho0 (below_size qB_));replace m:=qbl_ m hb;replace HB:=hs_ hb;(try clear hb);(try clear hb2);(try clear hk);(try clear hi);(try clear ho0);obtain⟨b0,b1,b2,b3⟩:=bc2_ m)|(go_at_call 102;(with_reducible refine(impl_forest.calls k i _ _ j I d _ ?_ ?_ a8.out).mono ?_);exact qC_ q HB;exact s.out;rintro e d3 ⟨d4,rfl,ho0,hb⟩;have a3:=am_ (Kd.R_lower ho0 (below_size qB_));replace O:=kb_ O hb;replace m:=qbl_ m hb;replace HB:=hs_ hb;(try clear hb);(try clear hb2);(try clear hk);(try clear hi);(try clear ho0);obtain⟨b4,b5,a4⟩:=Kd.R_slice a3.out;subst a4));try go_wp2_with (first|((with_reducible refine gd_ 2 ?_);refine by_ 2 (cs:= #[.int .i64 i,.slice D j.length E]) (t:=29) ?_;intro c7 hg e3 m hb;have e4:=gw_ hg;replace HB:=hs_ hb;clear hb hg;obtain⟨c8,c9,d0,d1⟩:=bc2_ m)|(go_at_call 67;(with_reducible refine(impl_labelsAt.calls k i _ _ j I u _ ?_ ?_ a7.out).mono ?_);exact qC_ q HB;exact s.out;rintro e d2 ⟨a9,rfl,ho0,hb⟩;have O:=am_ (Kd.R_lower ho0 (below_size qB_));replace m:=qbl_ m hb;replace HB:=hs_ hb;(try clear hb);(try clear hb2);(try clear hk);(try clear hi);(try clear ho0);obtain⟨b0,b1,b2,b3⟩:=bc2_ m)|(go_at_call 102;(with_reducible refine(impl_forest.calls k i _ _ j I d _ ?_ ?_ a8.out).mono ?_);exact qC_ q HB;exact s.out;rintro e d3 ⟨d4,rfl,ho0,hb⟩;have a3:=am_ (Kd.R_lower ho0 (below_size qB_));replace O:=kb_ O hb;replace m:=qbl_ m hb;replace HB:=hs_ hb;(try clear hb);(try clear hb2);(try clear hk);(try clear hi);(try clear ho0);obtain⟨b4,b5,a4⟩:=Kd.R_slice a3.out;subst a4)))
 go_loopg [15] k (fun kq v15 w' =>∃ (a:Int),v15= .int .i64 a∧Aside0 (impl_levelOk.l0 kq I u d (d.length:Int) a i j=some r)∧Aside0 (kq≤k)∧Aside0 (Kd.R (Kd.int .i64) 3 w' w.heap.size (fun _=>True) a9 u)∧Aside0 (Kd.R k43 43 w' w.heap.size (fun _=>True) (.slice b4 d.length b5) d)∧Aside0 (w'.heap[c7]? =some (.cells #[.int .i64 i,(.slice D j.length E)] 29 (0,0)))∧Aside0 (Below w.heap.size w w'))
 case atStart=>exact⟨(0),qe_,H',⟨Nat.le_refl _⟩,⟨ra_ O⟩,⟨ra_ a3⟩,⟨qk_ m⟩,⟨qB_⟩⟩
 case round=>
  clear H' c8 c9 b0 b1 d0 d1 b2 b3
  obtain⟨a,rfl,HA,HK1,o,J,m,HB⟩:=hrel
  cases gk with
  |zero=>exact absurd HA.out (by simp [impl_levelOk.l0])
  |succ V=>
   have H:=HA.out;clear HA
   simp only[impl_levelOk.l0]at H
   refine ib_ H ?_ ?_<;>clear H<;>intro b6 H
   ·obtain rfl:=oi_ H
    go_wp2
    repeat(go_quiet (fail);try go_wp2)
    go_ret
    exact⟨qr_,qB_⟩
   refine ig_ H ?_;clear H;intro b7 H
   refine ig_ H ?_;clear H;intro b8 H
   refine ig_ H ?_;clear H;intro b9 H
   refine ig_ H ?_;clear H;intro c0 H
   obtain⟨U,F,H⟩:=bs_ H
   refine jg_ H ?_;clear H;intro X H
   have c1:=eq_true X
   have c2:=decide_eq_true X
   clear X
   obtain⟨G,v⟩:∃ j_:Int,(shr .i64 i I)=j_:=⟨_,rfl⟩
   first|rw[v]at H|simp only[v]at H
   have hji18_:(i / 2 ^ min I.toNat 64)=G:=v
   have hji18z:I≤64→(i / 2 ^ I.toNat)=G:=shr_small v
   refine jc_ H ?_ ?_<;>clear H<;>intro T H
   ·have Y:decide ((G)<U)=true:=decide_eq_true T
    clear T
    obtain rfl:=oi_ H
    have L:=dt_ a
    have M:=du_ a d.length
    obtain⟨Z,N,e5,e6⟩:=at_T43 (Kd.R_reads' J.out).2.2 a (ot_ L) (ot_ M)
    cases N
    go_wp2_with (first|((with_reducible refine gd_ 7 ?_);refine by_ 7 (cs:= #[.int .i64 0,.int .i64 0]) (t:=43) ?_;intro g hg a0 B hb;have c3:=gw_ hg;obtain⟨c4,a1⟩:=qn_ m hg;replace o:=kb_ o hb;replace J:=am_ (Kd.R_below (Kd.R_elderB (qR_ J) g (Nat.le_of_eq hg.symm)) hb);replace m:=qbl_ m hb;replace HB:=hs_ hb;clear hb hg;obtain⟨e7,e8⟩:=nn_ a1;obtain⟨e9,f2,f3,f4⟩:=bc2_ B;obtain⟨f5,a5,c5⟩:=Kd.R_slice o.out;subst c5;have x:=dt_ (((rd_T43 d a).f0));have y:=du_ ((rd_T43 d a).f0) u.length;obtain⟨l,z,A⟩:=Kd.at_int (Kd.R_reads' o.out).2.2 ((rd_T43 d a).f0) (ot_ x) (ot_ y);cases z;have hn170_0:l.block≠g:=Kd.own_blk (Kd.R_ne o.out B.out (by decide));have hn170_1:l.block≠g:=Kd.own_blk (Kd.R_ne o.out B.out (by decide));replace A:=(cell_far (p:=⟨g,0,none⟩) (by first|(rw[add_block];exact hn170_0)|(show(Addr.add _ _).block≠_;rw[add_block];exact hn170_0)|exact hn170_0) (.int .i64 ((rd_T43 d a).f0))).trans A;replace A:=(cell_far (p:=⟨g,1,none⟩) (by first|(rw[add_block];exact hn170_1)|(show(Addr.add _ _).block≠_;rw[add_block];exact hn170_1)|exact hn170_1) (.int .i64 ((rd_T43 d a).f1))).trans A;have hy170_0:=fun (n_:Nat)=>(show((((a0.drewN n_).setCell ⟨g,0,none⟩ (.int .i64 ((rd_T43 d a).f0))).setCell ⟨g,1,none⟩ (.int .i64 ((rd_T43 d a).f1)))).cell? _=some _ from A);clear hn170_0 hn170_1;)|(go_at_call 114;(with_reducible refine(impl_sizes.calls V _ _ u (rd u ((rd_T43 d a).f0)) U _ ?side1 ?side2 F.out).mono ?_);(case side1=>refine(Kd.R_reads' (e:=3) (base:=w.heap.size) (ok:=fun k_=>True) (n:=u.length) (c:=a5) ?_).2.2;exact(by(with_reducible repeat(first|apply Kd.R_alloc|apply Kd.R_drewN|apply Kd.R_drew));exact(Kd.R_mono (Kd.R_far (p:=⟨g,1,none⟩) (Kd.R_far (p:=⟨g,0,none⟩) (Kd.R_types o.out B.out (by decide)) (fun _ hk=>hk.2) (.int .i64 ((rd_T43 d a).f0))) (fun _ hk=>hk.2) (.int .i64 ((rd_T43 d a).f1))) (fun _ h_=>h_.1))));(case side2=>exact(Kd.R_reads' o.out).2.1);rintro e w' ⟨rfl,⟨nd,rfl⟩⟩;(try first|exact⟨rfl,_,World.drewN_drewN _ _ _⟩|exact⟨rfl,_,Eq.trans (World.drewN_drewN _ _ _) (congrArg (World.drewN _) (Nat.add_assoc _ _ _))⟩);obtain⟨d5,d6,d7,d8⟩:=bc2_ m))
    repeat(go_quiet (first|(go_at_call 114;(with_reducible refine(impl_sizes.calls V _ _ u (rd u ((rd_T43 d a).f0)) U _ ?side1 ?side2 F.out).mono ?_);(case side1=>refine(Kd.R_reads' (e:=3) (base:=w.heap.size) (ok:=fun k_=>True) (n:=u.length) (c:=a5) ?_).2.2;exact(by(with_reducible repeat(first|apply Kd.R_alloc|apply Kd.R_drewN|apply Kd.R_drew));exact(Kd.R_mono (Kd.R_far (p:=⟨g,1,none⟩) (Kd.R_far (p:=⟨g,0,none⟩) (Kd.R_types o.out B.out (by decide)) (fun _ hk=>hk.2) (.int .i64 ((rd_T43 d a).f0))) (fun _ hk=>hk.2) (.int .i64 ((rd_T43 d a).f1))) (fun _ h_=>h_.1))));(case side2=>exact(Kd.R_reads' o.out).2.1);rintro e w' ⟨rfl,⟨nd,rfl⟩⟩;(try first|exact⟨rfl,_,World.drewN_drewN _ _ _⟩|exact⟨rfl,_,Eq.trans (World.drewN_drewN _ _ _) (congrArg (World.drewN _) (Nat.add_assoc _ _ _))⟩);obtain⟨d5,d6,d7,d8⟩:=bc2_ m));try go_wp2_with (first|((with_reducible refine gd_ 7 ?_);refine by_ 7 (cs:= #[.int .i64 0,.int .i64 0]) (t:=43) ?_;intro g hg a0 B hb;have c3:=gw_ hg;obtain⟨c4,a1⟩:=qn_ m hg;replace o:=kb_ o hb;replace J:=am_ (Kd.R_below (Kd.R_elderB (qR_ J) g (Nat.le_of_eq hg.symm)) hb);replace m:=qbl_ m hb;replace HB:=hs_ hb;clear hb hg;obtain⟨e7,e8⟩:=nn_ a1;obtain⟨e9,f2,f3,f4⟩:=bc2_ B;obtain⟨f5,a5,c5⟩:=Kd.R_slice o.out;subst c5;have x:=dt_ (((rd_T43 d a).f0));have y:=du_ ((rd_T43 d a).f0) u.length;obtain⟨l,z,A⟩:=Kd.at_int (Kd.R_reads' o.out).2.2 ((rd_T43 d a).f0) (ot_ x) (ot_ y);cases z;have hn170_0:l.block≠g:=Kd.own_blk (Kd.R_ne o.out B.out (by decide));have hn170_1:l.block≠g:=Kd.own_blk (Kd.R_ne o.out B.out (by decide));replace A:=(cell_far (p:=⟨g,0,none⟩) (by first|(rw[add_block];exact hn170_0)|(show(Addr.add _ _).block≠_;rw[add_block];exact hn170_0)|exact hn170_0) (.int .i64 ((rd_T43 d a).f0))).trans A;replace A:=(cell_far (p:=⟨g,1,none⟩) (by first|(rw[add_block];exact hn170_1)|(show(Addr.add _ _).block≠_;rw[add_block];exact hn170_1)|exact hn170_1) (.int .i64 ((rd_T43 d a).f1))).trans A;(try have hy170_0:=fun (n_:Nat)=>(show((((a0.drewN n_).setCell ⟨g,0,none⟩ (.int .i64 ((rd_T43 d a).f0))).setCell ⟨g,1,none⟩ (.int .i64 ((rd_T43 d a).f1)))).cell? _=some _ from A));clear hn170_0 hn170_1;)|(go_at_call 114;(with_reducible refine(impl_sizes.calls V _ _ u (rd u ((rd_T43 d a).f0)) U _ ?side1 ?side2 F.out).mono ?_);(case side1=>refine(Kd.R_reads' (e:=3) (base:=w.heap.size) (ok:=fun k_=>True) (n:=u.length) (c:=a5) ?_).2.2;exact(by(with_reducible repeat(first|apply Kd.R_alloc|apply Kd.R_drewN|apply Kd.R_drew));exact(Kd.R_mono (Kd.R_far (p:=⟨g,1,none⟩) (Kd.R_far (p:=⟨g,0,none⟩) (Kd.R_types o.out B.out (by decide)) (fun _ hk=>hk.2) (.int .i64 ((rd_T43 d a).f0))) (fun _ hk=>hk.2) (.int .i64 ((rd_T43 d a).f1))) (fun _ h_=>h_.1))));(case side2=>exact(Kd.R_reads' o.out).2.1);rintro e w' ⟨rfl,⟨nd,rfl⟩⟩;(try first|exact⟨rfl,_,World.drewN_drewN _ _ _⟩|exact⟨rfl,_,Eq.trans (World.drewN_drewN _ _ _) (congrArg (World.drewN _) (Nat.add_assoc _ _ _))⟩);obtain⟨d5,d6,d7,d8⟩:=bc2_ m)))
    go_ret
    exact⟨by first|rfl|(simp [errW_none,errW_some]<;>rfl)|(simp only[←v];first|rfl|(simp [errW_none,errW_some]<;>rfl))|(simp [*,errW_none,errW_some]<;>rfl),qB_⟩
   have Y:decide ((G)<U)=false:=decide_eq_false T
   clear T;have H' :=am_ H;clear H
   have L:=dt_ a
   have M:=du_ a d.length
   obtain⟨Z,N,e5,e6⟩:=at_T43 (Kd.R_reads' J.out).2.2 a (ot_ L) (ot_ M)
   cases N
   go_wp2_with (first|((with_reducible refine gd_ 7 ?_);refine by_ 7 (cs:= #[.int .i64 0,.int .i64 0]) (t:=43) ?_;intro g hg a2 B hb;have c3:=gw_ hg;obtain⟨c4,a1⟩:=qn_ m hg;replace o:=kb_ o hb;replace J:=am_ (Kd.R_below (Kd.R_elderB (qR_ J) g (Nat.le_of_eq hg.symm)) hb);replace m:=qbl_ m hb;replace HB:=hs_ hb;clear hb hg;obtain⟨f6,f7⟩:=nn_ a1;obtain⟨f8,f9,g0,g1⟩:=bc2_ B;obtain⟨g2,a6,c6⟩:=Kd.R_slice o.out;subst c6;have x:=dt_ (((rd_T43 d a).f0));have y:=du_ ((rd_T43 d a).f0) u.length;obtain⟨l,z,A⟩:=Kd.at_int (Kd.R_reads' o.out).2.2 ((rd_T43 d a).f0) (ot_ x) (ot_ y);cases z;have hn170_0:l.block≠g:=Kd.own_blk (Kd.R_ne o.out B.out (by decide));have hn170_1:l.block≠g:=Kd.own_blk (Kd.R_ne o.out B.out (by decide));replace A:=(cell_far (p:=⟨g,0,none⟩) (by first|(rw[add_block];exact hn170_0)|(show(Addr.add _ _).block≠_;rw[add_block];exact hn170_0)|exact hn170_0) (.int .i64 ((rd_T43 d a).f0))).trans A;replace A:=(cell_far (p:=⟨g,1,none⟩) (by first|(rw[add_block];exact hn170_1)|(show(Addr.add _ _).block≠_;rw[add_block];exact hn170_1)|exact hn170_1) (.int .i64 ((rd_T43 d a).f1))).trans A;have hy170_0:=fun (n_:Nat)=>(show((((a2.drewN n_).setCell ⟨g,0,none⟩ (.int .i64 ((rd_T43 d a).f0))).setCell ⟨g,1,none⟩ (.int .i64 ((rd_T43 d a).f1)))).cell? _=some _ from A);clear hn170_0 hn170_1;)|(go_at_call 114;(with_reducible refine(impl_sizes.calls V _ _ u (rd u ((rd_T43 d a).f0)) U _ ?side1 ?side2 F.out).mono ?_);(case side1=>refine(Kd.R_reads' (e:=3) (base:=w.heap.size) (ok:=fun k_=>True) (n:=u.length) (c:=a6) ?_).2.2;exact(by(with_reducible repeat(first|apply Kd.R_alloc|apply Kd.R_drewN|apply Kd.R_drew));exact(Kd.R_mono (Kd.R_far (p:=⟨g,1,none⟩) (Kd.R_far (p:=⟨g,0,none⟩) (Kd.R_types o.out B.out (by decide)) (fun _ hk=>hk.2) (.int .i64 ((rd_T43 d a).f0))) (fun _ hk=>hk.2) (.int .i64 ((rd_T43 d a).f1))) (fun _ h_=>h_.1))));(case side2=>exact(Kd.R_reads' o.out).2.1);rintro e w' ⟨rfl,⟨nd,rfl⟩⟩;(try first|exact⟨rfl,_,World.drewN_drewN _ _ _⟩|exact⟨rfl,_,Eq.trans (World.drewN_drewN _ _ _) (congrArg (World.drewN _) (Nat.add_assoc _ _ _))⟩);obtain⟨d9,e0,e1,e2⟩:=bc2_ m))
   repeat(go_quiet (first|(go_at_call 114;(with_reducible refine(impl_sizes.calls V _ _ u (rd u ((rd_T43 d a).f0)) U _ ?side1 ?side2 F.out).mono ?_);(case side1=>refine(Kd.R_reads' (e:=3) (base:=w.heap.size) (ok:=fun k_=>True) (n:=u.length) (c:=a6) ?_).2.2;exact(by(with_reducible repeat(first|apply Kd.R_alloc|apply Kd.R_drewN|apply Kd.R_drew));exact(Kd.R_mono (Kd.R_far (p:=⟨g,1,none⟩) (Kd.R_far (p:=⟨g,0,none⟩) (Kd.R_types o.out B.out (by decide)) (fun _ hk=>hk.2) (.int .i64 ((rd_T43 d a).f0))) (fun _ hk=>hk.2) (.int .i64 ((rd_T43 d a).f1))) (fun _ h_=>h_.1))));(case side2=>exact(Kd.R_reads' o.out).2.1);rintro e w' ⟨rfl,⟨nd,rfl⟩⟩;(try first|exact⟨rfl,_,World.drewN_drewN _ _ _⟩|exact⟨rfl,_,Eq.trans (World.drewN_drewN _ _ _) (congrArg (World.drewN _) (Nat.add_assoc _ _ _))⟩);obtain⟨d9,e0,e1,e2⟩:=bc2_ m));try go_wp2_with (first|((with_reducible refine gd_ 7 ?_);refine by_ 7 (cs:= #[.int .i64 0,.int .i64 0]) (t:=43) ?_;intro g hg a2 B hb;have c3:=gw_ hg;obtain⟨c4,a1⟩:=qn_ m hg;replace o:=kb_ o hb;replace J:=am_ (Kd.R_below (Kd.R_elderB (qR_ J) g (Nat.le_of_eq hg.symm)) hb);replace m:=qbl_ m hb;replace HB:=hs_ hb;clear hb hg;obtain⟨f6,f7⟩:=nn_ a1;obtain⟨f8,f9,g0,g1⟩:=bc2_ B;obtain⟨g2,a6,c6⟩:=Kd.R_slice o.out;subst c6;have x:=dt_ (((rd_T43 d a).f0));have y:=du_ ((rd_T43 d a).f0) u.length;obtain⟨l,z,A⟩:=Kd.at_int (Kd.R_reads' o.out).2.2 ((rd_T43 d a).f0) (ot_ x) (ot_ y);cases z;have hn170_0:l.block≠g:=Kd.own_blk (Kd.R_ne o.out B.out (by decide));have hn170_1:l.block≠g:=Kd.own_blk (Kd.R_ne o.out B.out (by decide));replace A:=(cell_far (p:=⟨g,0,none⟩) (by first|(rw[add_block];exact hn170_0)|(show(Addr.add _ _).block≠_;rw[add_block];exact hn170_0)|exact hn170_0) (.int .i64 ((rd_T43 d a).f0))).trans A;replace A:=(cell_far (p:=⟨g,1,none⟩) (by first|(rw[add_block];exact hn170_1)|(show(Addr.add _ _).block≠_;rw[add_block];exact hn170_1)|exact hn170_1) (.int .i64 ((rd_T43 d a).f1))).trans A;(try have hy170_0:=fun (n_:Nat)=>(show((((a2.drewN n_).setCell ⟨g,0,none⟩ (.int .i64 ((rd_T43 d a).f0))).setCell ⟨g,1,none⟩ (.int .i64 ((rd_T43 d a).f1)))).cell? _=some _ from A));clear hn170_0 hn170_1;)|(go_at_call 114;(with_reducible refine(impl_sizes.calls V _ _ u (rd u ((rd_T43 d a).f0)) U _ ?side1 ?side2 F.out).mono ?_);(case side1=>refine(Kd.R_reads' (e:=3) (base:=w.heap.size) (ok:=fun k_=>True) (n:=u.length) (c:=a6) ?_).2.2;exact(by(with_reducible repeat(first|apply Kd.R_alloc|apply Kd.R_drewN|apply Kd.R_drew));exact(Kd.R_mono (Kd.R_far (p:=⟨g,1,none⟩) (Kd.R_far (p:=⟨g,0,none⟩) (Kd.R_types o.out B.out (by decide)) (fun _ hk=>hk.2) (.int .i64 ((rd_T43 d a).f0))) (fun _ hk=>hk.2) (.int .i64 ((rd_T43 d a).f1))) (fun _ h_=>h_.1))));(case side2=>exact(Kd.R_reads' o.out).2.1);rintro e w' ⟨rfl,⟨nd,rfl⟩⟩;(try first|exact⟨rfl,_,World.drewN_drewN _ _ _⟩|exact⟨rfl,_,Eq.trans (World.drewN_drewN _ _ _) (congrArg (World.drewN _) (Nat.add_assoc _ _ _))⟩);obtain⟨d9,e0,e1,e2⟩:=bc2_ m)))
   go_roundg V
   case measure=>have:=HK1.out;omega
   case rel=>exact⟨(wrap64 (a + 1)),qe_,H',⟨by have:=HK1.out;omega⟩,⟨by(with_reducible repeat(first|apply Kd.R_alloc|apply Kd.R_drewN|apply Kd.R_drew));exact Kd.R_mono (Kd.R_far (p:=⟨g,1,none⟩) (Kd.R_far (p:=⟨g,0,none⟩) (Kd.R_types o.out B.out (by decide)) (fun _ hk=>hk.2) (.int .i64 ((rd_T43 d a).f0))) (fun _ hk=>hk.2) (.int .i64 ((rd_T43 d a).f1))) (fun _ hk=>trivial)⟩,⟨by(with_reducible repeat(first|apply Kd.R_alloc|apply Kd.R_drewN|apply Kd.R_drew));exact Kd.R_mono (Kd.R_far (p:=⟨g,1,none⟩) (Kd.R_far (p:=⟨g,0,none⟩) (Kd.R_mono J.out (fun k_ hk=>(⟨hk,hk.2⟩:_∧k_≠g))) (fun _ hk=>hk.2) (.int .i64 ((rd_T43 d a).f0))) (fun _ hk=>hk.2) (.int .i64 ((rd_T43 d a).f1))) (fun _ hk=>trivial)⟩,⟨qf_ m⟩,⟨qB_⟩⟩
end Go.Proofs.Ytbkklafkoegdpaa.QFnTakes

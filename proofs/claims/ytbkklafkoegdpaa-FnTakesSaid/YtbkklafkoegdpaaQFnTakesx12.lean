import Derived.Test.YtbkklafkoegdpaaQFnTakesx11
namespace Go.Proofs.Ytbkklafkoegdpaa.QFnTakes
open Go.RowKit Go.Proofs.YtbkklafkoegdpaaW.PrintWords Go.Proofs.YtbkklafkoegdpaaW.PrintLast Go.Proofs.YtbkklafkoegdpaaW.PrintMore
set_option maxHeartbeats 8000000
set_option maxRecDepth 100000
set_option linter.unusedVariables false
set_option linter.unusedSimpArgs false
def spec_ForestAt.l0:Nat→List (S43)→List Int→Int→Int→List (S72)→Int→List (List Int)→Option (Int × (List (List Int)) × Bool)
  |0,_,_,_,_,_,_,_=>none
  |k + 1,x7,x8,x9,x278000,x278001,x280000,x280001=>if x9<x278000 then ((spec_l05In.f k x8 x9).bind fun t287=>(if t287=true then (spec_ForestAt.l0 k x7 x8 (wrap64 (x9 + 1)) x278000 x278001 x280000 x280001) else ((spec_TourOf.f k x278000 x7 x9).bind fun bt288=>(if bt288.2=true then (if x280001.length<5864062014805 then (if x8.length + bt288.1.length<17592186044416 then (spec_ForestAt.l0 k x7 (x8++bt288.1) (wrap64 (x9 + 1)) x278000 x278001 x280000 (x280001++[bt288.1])) else (none)) else (none)) else (some (0,([]:List (List Int)),false)))))) else (some (x280000,x280001,true))
def spec_ForestAt.f (k:Nat) (a0_0:Int) (l0_1:List (S72)) (a1:Int):Option (Int × (List (List Int)) × Bool):=(spec_l08Tree.f k a0_0 l0_1 a1).bind fun t280=>((spec_l01In.f a0_0 1 12).bind fun t283=>(if t283=true then (spec_ForestAt.l0 k t280 (([]:List Int)) 0 a0_0 l0_1 a0_0 ([]:List (List Int))) else (some (0,([]:List (List Int)),false))))
theorem spec_ForestAt.calls (k:Nat) (a:Int) (n:Option Addr) (q:Nat) (c:List (S72)) (a3:Int) (c5:Int) (c6:List (List Int)) (c7:Bool) (w:World) (hr0_1:Kd.C k72 w n c.length c) (hc0_1:c.length≤q) (h:spec_ForestAt.f k a c a3=some (c5,c6,c7)):
  Calls Try.prog 58 #[.agg #[.int .i64 a,.slice n c.length q],.int .i64 a3] w fun e w' =>∃ b7:Value,e= .returned (.tuple #[.agg #[.int .i64 c5,b7],.bool c7])∧Kd.S (Kd.slice 3 (Kd.int .i64)) 51 w' w.heap.size (fun _=>True) b7 c6∧Below w.heap.size w w' :=by
 have hu29:=Try.underlying29;have hu39:=Try.underlying39
 have O:=am_ hr0_1
 have T:=am_ hc0_1
 clear hr0_1 hc0_1
 have HB:=am_ (Below.refl w.heap.size w)
 have H:((spec_l08Tree.f k a c a3).bind fun J=>((spec_l01In.f a 1 12).bind fun d2=>(if d2=true then (spec_ForestAt.l0 k J (([]:List Int)) 0 a c a ([]:List (List Int))) else (some (0,([]:List (List Int)),false)))))=some (c5,c6,c7):=h
 clear h
 obtain⟨J,d3,H⟩:=bs_ H
 obtain⟨d2,d4,H⟩:=bs_ H
 refine id_ H ?_ ?_<;>clear H<;>rintro rfl H
 ·simp only[Option.some.injEq,Prod.mk.injEq]at H
  obtain⟨rfl,rfl,rfl⟩:=H
  go_enter Try.func58,Try.ntmps58
  go_wp2_with (first|((with_reducible refine gd_ 2 ?_);refine by_ 2 (cs:= #[.int .i64 a,.slice n c.length q]) (t:=29) ?_;intro M hg e0 i hb;have e1:=gw_ hg;replace HB:=hs_ hb;clear hb hg)|((with_reducible refine gd_ 4 ?_);refine by_ 4 (cs:= #[.int .i64 0,.slice none 0 0]) (t:=39) ?_;intro F hg e2 j hb;have e3:=gw_ hg;obtain⟨a4,e4⟩:=qn_ i hg;replace i:=qbl_ i hb;replace HB:=hs_ hb;clear hb hg;obtain⟨j7,j8⟩:=nn_ a4;obtain⟨j9,k0,k1,k2⟩:=bc2_ i)|((with_reducible refine gd_ 6 ?_);refine by_ 6 (cs:= #[.int .i64 0,.slice none 0 0]) (t:=39) ?_;intro E hg e5 l hb;have e6:=gw_ hg;obtain⟨b8,c8⟩:=qn_ i hg;obtain⟨d5,b9⟩:=qn_ j hg;replace i:=qbl_ i hb;replace j:=qbl_ j hb;replace HB:=hs_ hb;clear hb hg;obtain⟨k3,k4⟩:=nn_ c8;obtain⟨k5,k6⟩:=nn_ b9;obtain⟨k7,k8,k9,l4⟩:=bc2_ l;obtain⟨l5,l6,l7,l8⟩:=bc2_ i)|((with_reducible refine gc_ 108 ?_);refine gl_ (some 17) Try.func108 #[.agg #[.int .i64 a,.slice n c.length q],.int .i64 a3] ?_;(with_reducible refine(spec_l08Tree.calls k a _ _ c a3 J _ ?_ ?_ d3.out).mono ?_);exact Kd.C_below O.out qB_;exact T.out;rintro e u ⟨c0,rfl,ho0,hb⟩;refine⟨_,rfl,?_⟩;have a5:=am_ (Kd.R_lower ho0 (below_size qB_));replace i:=qbl_ i hb;replace j:=qbl_ j hb;replace l:=am_ (blk_below (g:=E) (o:= .cells #[.int .i64 a,.slice none 0 0] 39 (0,0)) (qp_ l) hb);replace HB:=hs_ hb;clear hb ho0;obtain⟨l9,m0,m1,m2⟩:=bc2_ i)|((with_reducible refine gc_ 57 ?_);refine gl_ (some 20) Try.func57 #[.int .i64 a,.int .i64 1,.int .i64 12] ?_;(with_reducible refine(spec_l01In.calls a 1 12 false _ d4.out).mono ?_);rintro e w' ⟨rfl,⟨nd,rfl⟩⟩;refine⟨_,rfl,?_⟩;((rw[drewN_self u];generalize hq_:World.drewN u _=u;have y:Aside0 (Kd.R k43 43 u w.heap.size (fun _=>True) c0 J):=⟨by rw[←hq_];exact(qR_ a5)⟩;have z:Aside0 (u.heap[M]? =some (.cells #[.int .i64 a,.slice n c.length q] 29 (0,0))):=⟨by rw[←hq_];exact(qk_ i)⟩;have A:Aside0 (u.heap[F]? =some (.cells #[.int .i64 0,.slice none 0 0] 39 (0,0))):=⟨by rw[←hq_];exact(qk_ j)⟩;have B:Aside0 (u.heap[E]? =some (.cells #[.int .i64 a,.slice none 0 0] 39 (0,0))):=⟨by rw[←hq_];exact(qk_ l)⟩;have D:Aside0 (Below w.heap.size w u):=⟨by rw[←hq_];exact qB_⟩;clear a5 i j l HB hq_;have a5:=y;have i:=z;have j:=A;have l:=B;have HB:=D;clear y z A B D;have hcr_gb277_0:u.cell? ⟨M,0,none⟩=some (.int .i64 a):=bl_ i 0;have hfr_gb277_0:=blk_frozen i.out 0;have hcr_gb277_1:u.cell? ⟨M,1,none⟩=some (.slice n c.length q):=bl_ i 1;have hfr_gb277_1:=blk_frozen i.out 1;have hcr_gb278_0:u.cell? ⟨F,0,none⟩=some (.int .i64 0):=bl_ j 0;have hfr_gb278_0:=blk_frozen j.out 0;have hcr_gb278_1:u.cell? ⟨F,1,none⟩=some (.slice none 0 0):=bl_ j 1;have hfr_gb278_1:=blk_frozen j.out 1;have hcr_gb279_0:u.cell? ⟨E,0,none⟩=some (.int .i64 a):=bl_ l 0;have hfr_gb279_0:=blk_frozen l.out 0;have hcr_gb279_1:u.cell? ⟨E,1,none⟩=some (.slice none 0 0):=bl_ l 1;have hfr_gb279_1:=blk_frozen l.out 1));obtain⟨m3,m4,m5,m6⟩:=bc2_ j))
  refine bodyPost_ret (results_ct rfl _ _ F 39 #[.int .i64 0,.slice none 0 0] (0,0) _ rfl (qp_ j) Try.underlying39 rfl (by kernel_rfl)) rfl ?_
  exact⟨_,qr_,by first|exact Kd.S_nil _ _ _ _ _|exact Kd.N_nil _ _ _ _ _|exact Kd.V_nil _ _ _ _ _|exact Kd.Q_nil _ _ _ _ _|exact Kd.R_nil _ _ _ _ _,qB_⟩
 generalize U:(([]:List Int))=e7 at H;replace H:=bh_ H;have V:=am_ U.symm;clear U;have H' :=am_ H;clear H
 go_enter Try.func58,Try.ntmps58
 go_wp2_with (first|((with_reducible refine gd_ 2 ?_);refine by_ 2 (cs:= #[.int .i64 a,.slice n c.length q]) (t:=29) ?_;intro M hg m7 i hb;have e1:=gw_ hg;replace HB:=hs_ hb;clear hb hg)|((with_reducible refine gd_ 4 ?_);refine by_ 4 (cs:= #[.int .i64 0,.slice none 0 0]) (t:=39) ?_;intro F hg m8 j hb;have e3:=gw_ hg;obtain⟨a4,e4⟩:=qn_ i hg;replace i:=qbl_ i hb;replace HB:=hs_ hb;clear hb hg;obtain⟨m9,n0⟩:=nn_ a4;obtain⟨e8,e9,f0,f1⟩:=bc2_ i)|((with_reducible refine gd_ 6 ?_);refine by_ 6 (cs:= #[.int .i64 0,.slice none 0 0]) (t:=39) ?_;intro E hg f2 l hb;have e6:=gw_ hg;obtain⟨b8,c8⟩:=qn_ i hg;obtain⟨d5,b9⟩:=qn_ j hg;replace i:=qbl_ i hb;replace j:=qbl_ j hb;replace HB:=hs_ hb;clear hb hg;obtain⟨n1,n2⟩:=nn_ c8;obtain⟨n3,n4⟩:=nn_ b9;obtain⟨f3,f4,f5,f6⟩:=bc2_ l;obtain⟨f7,f8,f9,g0⟩:=bc2_ i)|((with_reducible refine gc_ 108 ?_);refine gl_ (some 17) Try.func108 #[.agg #[.int .i64 a,.slice n c.length q],.int .i64 a3] ?_;(with_reducible refine(spec_l08Tree.calls k a _ _ c a3 J _ ?_ ?_ d3.out).mono ?_);exact Kd.C_below O.out qB_;exact T.out;rintro e g1 ⟨c0,rfl,ho0,hb⟩;refine⟨_,rfl,?_⟩;have a5:=am_ (Kd.R_lower ho0 (below_size qB_));replace i:=qbl_ i hb;replace j:=qbl_ j hb;replace l:=am_ (blk_below (g:=E) (o:= .cells #[.int .i64 a,.slice none 0 0] 39 (0,0)) (qp_ l) hb);replace HB:=hs_ hb;clear hb ho0;obtain⟨g2,g3,g4,g5⟩:=bc2_ i)|((with_reducible refine gc_ 57 ?_);refine gl_ (some 20) Try.func57 #[.int .i64 a,.int .i64 1,.int .i64 12] ?_;(with_reducible refine(spec_l01In.calls a 1 12 true _ d4.out).mono ?_);rintro e w' ⟨rfl,⟨nd,rfl⟩⟩;refine⟨_,rfl,?_⟩)|((with_reducible refine gd_ 23 ?_);refine Kd.R_lit (Kd.int .i64) _ 3 ?hg (N:=23) ?hd (xs:=([]:List Int)) (inner:=[]) (ok:=fun _=>True) (okp:=fun _=>True) ?hr ?hp (fun _ hk=>hk) trivial (Below.refl _ _) (Nat.le_refl _) (by simp) ?_;(case hd=>rfl);(case hg=>rfl);(case hr=>first|(go_simp;done)|(go_simp;rfl));(case hp=>exact(Reps.none _ _));intro n5 g6 ho18 hb hg_ hnew_;clear hg_ hnew_;(first|rw[←V.out]at ho18|(simp only[Int.reduceToNat]at ho18;rw[←V.out]at ho18));have g7:=am_ (Kd.R_lower ho18 (below_size qB_));replace a5:=kb_ a5 hb;replace i:=qbl_ i hb;replace j:=qbl_ j hb;replace l:=qbl_ l hb;replace HB:=hs_ hb;clear hb ho18))
 go_loopg [8,9] k (fun kq v8 v9 w' =>∃ (d:List Int) (m:Int) (a0:Int) (Z:List (List Int)) (L:Value),v9= .int .i64 m∧Aside0 (spec_ForestAt.l0 kq J d m a c a Z=some (c5,c6,c7))∧Aside0 (kq≤k)∧Aside0 (Kd.R k43 43 w' w.heap.size (fun _=>True) c0 J)∧Aside0 (Kd.R (Kd.int .i64) 3 w' w.heap.size (fun _=>True) v8 d)∧Aside0 (Kd.S (Kd.slice 3 (Kd.int .i64)) 51 w' w.heap.size (fun k_=>some k_≠(v8:Value).ownBlock) L Z)∧Aside0 (w'.heap[M]? =some (.cells #[.int .i64 a,(.slice n c.length q)] 29 (0,0)))∧Aside0 (w'.heap[F]? =some (.cells #[.int .i64 a0,(.slice none 0 0)] 39 (0,0)))∧Aside0 (w'.heap[E]? =some (.cells #[.int .i64 a,L] 39 (0,0)))∧Aside0 (Below w.heap.size w w'))
 case atStart=>exact⟨(e7),(0),(0),(([]:List (List Int))),(.slice none 0 0),qe_,H',⟨Nat.le_refl _⟩,⟨ra_ a5⟩,⟨ra_ g7⟩,⟨by first|exact Kd.S_nil _ _ _ _ _|exact Kd.N_nil _ _ _ _ _|exact Kd.V_nil _ _ _ _ _|exact Kd.Q_nil _ _ _ _ _|exact Kd.R_nil _ _ _ _ _⟩,⟨qk_ i⟩,⟨qk_ j⟩,⟨qk_ l⟩,⟨qB_⟩⟩
 case round=>
  clear H' f3 f4 f7 f8 g2 g3 e8 e9 f5 f6 f9 g0 g4 g5 f0 f1
  obtain⟨d,m,a0,Z,L,rfl,HA,HK1,v,s,x,i,j,l,HB⟩:=hrel
  cases gk with
  |zero=>exact absurd HA.out (by simp [spec_ForestAt.l0])
  |succ a6=>
   have H:=HA.out;clear HA
   simp only[spec_ForestAt.l0]at H
   refine ib_ H ?_ ?_<;>clear H<;>intro c9 H
   ·simp only[Option.some.injEq,Prod.mk.injEq]at H
    obtain⟨rfl,rfl,rfl⟩:=H
    obtain⟨o0,o1⟩:=nn_ a4;obtain⟨o2,o3⟩:=nn_ b8
    obtain⟨o4,j0,j1,j2⟩:=bc2_ i
    obtain⟨o5,o6⟩:=nn_ b9
    obtain⟨j3,j4,o7,o8⟩:=bc2_ l
    obtain⟨o9,p0,p1,p2⟩:=bc2_ j
    obtain⟨d6,d7,h1⟩:=Kd.S_slice x.out
    subst h1
    go_wp2
    refine bodyPost_ret (results_ct rfl _ _ F 39 #[.int .i64 a,.slice d6 Z.length d7] (0,0) _ rfl (qp_ j) Try.underlying39 rfl (by kernel_rfl)) rfl ?_
    exact⟨_,qr_,by(with_reducible repeat(first|apply Kd.S_alloc|apply Kd.S_drewN|apply Kd.S_drew));exact Kd.S_mono (Kd.S_far (p:=⟨F,1,none⟩) (Kd.S_far (p:=⟨F,0,none⟩) (Kd.S_types x.out j.out (by decide)) (fun _ hk=>hk.2) (.int .i64 a)) (fun _ hk=>hk.2) (.slice d6 Z.length d7)) (fun _ hk=>trivial),qB_⟩
   obtain⟨p3,a7,H⟩:=bs_ H
   refine ie_ H ?_ ?_<;>clear H<;>rintro rfl H
   ·have H' :=am_ H;clear H;obtain⟨p4,p5⟩:=nn_ a4;obtain⟨p6,p7⟩:=nn_ b8
    obtain⟨p8,p9,q0,q1⟩:=bc2_ i
    obtain⟨h2,h3,h4⟩:=Kd.R_slice s.out
    subst h4
    go_wp2_with (first|((with_reducible refine gc_ 105 ?_);refine gl_ (some 32) Try.func105 #[.slice h2 d.length h3,.int .i64 m] ?_;(with_reducible refine(spec_l05In.calls a6 _ _ d m true _ ?_ ?_ a7.out).mono ?_);exact qD_ (Kd.R_reads' s.out).2.2;exact(Kd.R_reads' s.out).2.1;rintro e w' ⟨rfl,⟨nd,rfl⟩⟩;refine⟨_,rfl,?_⟩))
    go_roundg a6
    case measure=>have:=HK1.out;omega
    case rel=>exact⟨(d),(wrap64 (m + 1)),(a0),(Z),(L),qe_,H',⟨by have:=HK1.out;omega⟩,⟨ra_ v⟩,⟨ra_ s⟩,⟨by(with_reducible repeat(first|apply Kd.S_alloc|apply Kd.S_drewN|apply Kd.S_drew));first|exact x.out|(have h_:=x.out;simp only[own_slice]at h_ ⊢;exact h_)⟩,⟨qk_ i⟩,⟨qk_ j⟩,⟨qk_ l⟩,⟨qB_⟩⟩
   obtain⟨⟨a1,q2⟩,c1,H⟩:=bs_ H;dsimp only at H
   refine id_ H ?_ ?_<;>clear H<;>rintro rfl H
   ·simp only[Option.some.injEq,Prod.mk.injEq]at H
    obtain⟨rfl,rfl,rfl⟩:=H
    obtain⟨q3,q4⟩:=nn_ a4;obtain⟨q5,q6⟩:=nn_ b8
    obtain⟨q7,q8,q9,r0⟩:=bc2_ i
    obtain⟨d0,d1,h5⟩:=Kd.R_slice s.out
    subst h5
    go_wp2_with (first|((with_reducible refine gc_ 105 ?_);refine gl_ (some 32) Try.func105 #[.slice d0 d.length d1,.int .i64 m] ?_;(with_reducible refine(spec_l05In.calls a6 _ _ d m false _ ?_ ?_ a7.out).mono ?_);exact qD_ (Kd.R_reads' s.out).2.2;exact(Kd.R_reads' s.out).2.1;rintro e w' ⟨rfl,⟨nd,rfl⟩⟩;refine⟨_,rfl,?_⟩;((rw[drewN_self wr];generalize hq_:World.drewN wr _=wr;have y:Aside0 (Kd.S (Kd.slice 3 (Kd.int .i64)) 51 wr w.heap.size (fun k_=>some k_≠(.slice d0 d.length d1:Value).ownBlock) L Z):=⟨by rw[←hq_];exact(qS_ x)⟩;have z:Aside0 (Kd.R k43 43 wr w.heap.size (fun _=>True) c0 J):=⟨by rw[←hq_];exact(qR_ v)⟩;have A:Aside0 (Kd.R (Kd.int .i64) 3 wr w.heap.size (fun _=>True) (.slice d0 d.length d1) d):=⟨by rw[←hq_];exact(qR_ s)⟩;have B:Aside0 (wr.heap[M]? =some (.cells #[.int .i64 a,.slice n c.length q] 29 (0,0))):=⟨by rw[←hq_];exact(qk_ i)⟩;have D:Aside0 (wr.heap[F]? =some (.cells #[.int .i64 a0,.slice none 0 0] 39 (0,0))):=⟨by rw[←hq_];exact(qk_ j)⟩;have G:Aside0 (wr.heap[E]? =some (.cells #[.int .i64 a,L] 39 (0,0))):=⟨by rw[←hq_];exact(qk_ l)⟩;have I:Aside0 (Below w.heap.size w wr):=⟨by rw[←hq_];exact qB_⟩;clear x v s i j l HB hq_;have x:=y;have v:=z;have s:=A;have i:=B;have j:=D;have l:=G;have HB:=I;clear y z A B D G I;have hcr_gb277_0:wr.cell? ⟨M,0,none⟩=some (.int .i64 a):=bl_ i 0;have hfr_gb277_0:=blk_frozen i.out 0;have hcr_gb277_1:wr.cell? ⟨M,1,none⟩=some (.slice n c.length q):=bl_ i 1;have hfr_gb277_1:=blk_frozen i.out 1;have hcr_gb278_0:wr.cell? ⟨F,0,none⟩=some (.int .i64 a0):=bl_ j 0;have hfr_gb278_0:=blk_frozen j.out 0;have hcr_gb278_1:wr.cell? ⟨F,1,none⟩=some (.slice none 0 0):=bl_ j 1;have hfr_gb278_1:=blk_frozen j.out 1;have hcr_gb279_0:wr.cell? ⟨E,0,none⟩=some (.int .i64 a):=bl_ l 0;have hfr_gb279_0:=blk_frozen l.out 0;have hcr_gb279_1:wr.cell? ⟨E,1,none⟩=some (L):=bl_ l 1;have hfr_gb279_1:=blk_frozen l.out 1));obtain⟨h6,h7,h8⟩:=Kd.R_slice v.out;subst h8)|((with_reducible refine gc_ 109 ?_);refine gl_ (some 38) Try.func109 #[.int .i64 a,.slice h6 J.length h7,.int .i64 m] ?_;(with_reducible refine(spec_TourOf.calls a6 a _ _ J m a1 false _ ?_ ?_ c1.out).mono ?_);exact qD_ (Kd.R_reads' v.out).2.2;exact(Kd.R_reads' v.out).2.1;rintro e h9 ⟨i0,rfl,ho0,hb⟩;refine⟨_,rfl,?_⟩;have b6:=am_ (Kd.R_lower (Kd.R_new' ho0 (Kd.R_lt (qR_ s))) (below_size qB_));replace v:=kb_ v hb;replace s:=ke_ s ho0 hb;replace x:=am_ (Kd.S_elder' (qS_ x) (Kd.R_base ho0) hb);replace i:=qbl_ i hb;replace j:=qbl_ j hb;replace l:=qbl_ l hb;replace HB:=hs_ hb;clear hb ho0;obtain⟨r1,r2⟩:=nn_ d5;obtain⟨l1,l2,l3,r3⟩:=bc2_ j))
    refine bodyPost_ret (results_ct rfl _ _ F 39 #[.int .i64 0,.slice none 0 0] (0,0) _ rfl (qp_ j) Try.underlying39 rfl (by kernel_rfl)) rfl ?_
    exact⟨_,qr_,by first|exact Kd.S_nil _ _ _ _ _|exact Kd.N_nil _ _ _ _ _|exact Kd.V_nil _ _ _ _ _|exact Kd.Q_nil _ _ _ _ _|exact Kd.R_nil _ _ _ _ _,qB_⟩
   refine jg_ H ?_;clear H;intro c2 H
   have a8:=am_ c2
   clear c2
   generalize X:(Z++[a1])=a2 at H;replace H:=bh_ H;have a9:=am_ X.symm;clear X
   refine jg_ H ?_;clear H;intro c3 H
   have b0:=am_ c3
   clear c3
   generalize Y:(d++a1)=i1 at H;replace H:=bh_ H;have b1:=am_ Y.symm;clear Y;have H' :=am_ H;clear H;obtain⟨r4,r5⟩:=nn_ a4;obtain⟨r6,r7⟩:=nn_ b8
   obtain⟨r8,r9,s0,s1⟩:=bc2_ i
   obtain⟨b2,b3,i2⟩:=Kd.R_slice s.out
   subst i2
   go_wp2_with (first|((with_reducible refine gc_ 105 ?_);refine gl_ (some 32) Try.func105 #[.slice b2 d.length b3,.int .i64 m] ?_;(with_reducible refine(spec_l05In.calls a6 _ _ d m false _ ?_ ?_ a7.out).mono ?_);exact qD_ (Kd.R_reads' s.out).2.2;exact(Kd.R_reads' s.out).2.1;rintro e w' ⟨rfl,⟨nd,rfl⟩⟩;refine⟨_,rfl,?_⟩;((rw[drewN_self wr];generalize hq_:World.drewN wr _=wr;have y:Aside0 (Kd.S (Kd.slice 3 (Kd.int .i64)) 51 wr w.heap.size (fun k_=>some k_≠(.slice b2 d.length b3:Value).ownBlock) L Z):=⟨by rw[←hq_];exact(qS_ x)⟩;have z:Aside0 (Kd.R k43 43 wr w.heap.size (fun _=>True) c0 J):=⟨by rw[←hq_];exact(qR_ v)⟩;have A:Aside0 (Kd.R (Kd.int .i64) 3 wr w.heap.size (fun _=>True) (.slice b2 d.length b3) d):=⟨by rw[←hq_];exact(qR_ s)⟩;have B:Aside0 (wr.heap[M]? =some (.cells #[.int .i64 a,.slice n c.length q] 29 (0,0))):=⟨by rw[←hq_];exact(qk_ i)⟩;have D:Aside0 (wr.heap[F]? =some (.cells #[.int .i64 a0,.slice none 0 0] 39 (0,0))):=⟨by rw[←hq_];exact(qk_ j)⟩;have G:Aside0 (wr.heap[E]? =some (.cells #[.int .i64 a,L] 39 (0,0))):=⟨by rw[←hq_];exact(qk_ l)⟩;have I:Aside0 (Below w.heap.size w wr):=⟨by rw[←hq_];exact qB_⟩;clear x v s i j l HB hq_;have x:=y;have v:=z;have s:=A;have i:=B;have j:=D;have l:=G;have HB:=I;clear y z A B D G I;have hcr_gb277_0:wr.cell? ⟨M,0,none⟩=some (.int .i64 a):=bl_ i 0;have hfr_gb277_0:=blk_frozen i.out 0;have hcr_gb277_1:wr.cell? ⟨M,1,none⟩=some (.slice n c.length q):=bl_ i 1;have hfr_gb277_1:=blk_frozen i.out 1;have hcr_gb278_0:wr.cell? ⟨F,0,none⟩=some (.int .i64 a0):=bl_ j 0;have hfr_gb278_0:=blk_frozen j.out 0;have hcr_gb278_1:wr.cell? ⟨F,1,none⟩=some (.slice none 0 0):=bl_ j 1;have hfr_gb278_1:=blk_frozen j.out 1;have hcr_gb279_0:wr.cell? ⟨E,0,none⟩=some (.int .i64 a):=bl_ l 0;have hfr_gb279_0:=blk_frozen l.out 0;have hcr_gb279_1:wr.cell? ⟨E,1,none⟩=some (L):=bl_ l 1;have hfr_gb279_1:=blk_frozen l.out 1));obtain⟨i3,i4,i5⟩:=Kd.R_slice v.out;subst i5)|((with_reducible refine gc_ 109 ?_);refine gl_ (some 38) Try.func109 #[.int .i64 a,.slice i3 J.length i4,.int .i64 m] ?_;(with_reducible refine(spec_TourOf.calls a6 a _ _ J m a1 true _ ?_ ?_ c1.out).mono ?_);exact qD_ (Kd.R_reads' v.out).2.2;exact(Kd.R_reads' v.out).2.1;rintro e i6 ⟨i0,rfl,ho0,hb⟩;refine⟨_,rfl,?_⟩;have b6:=am_ (Kd.R_lower (Kd.R_new' ho0 (Kd.R_lt (qR_ s))) (below_size qB_));replace v:=kb_ v hb;replace s:=ke_ s ho0 hb;replace x:=am_ (Kd.S_elder' (qS_ x) (Kd.R_base ho0) hb);replace i:=qbl_ i hb;replace j:=qbl_ j hb;replace l:=qbl_ l hb;replace HB:=hs_ hb;clear hb ho0;obtain⟨s2,s3⟩:=nn_ b9;obtain⟨s4,s5,s6,s7⟩:=bc2_ l;obtain⟨d8,d9,i7⟩:=Kd.R_slice b6.out;subst i7)|((with_reducible refine gate_builtin (b:= .append) (xs:= #[.tmp 45,.tmp 47]) rfl ?_);at_builtin;refine Kd.S_append (Kd.slice 3 (Kd.int .i64)) (w0:=w) w.heap.size rfl (.tmp 45) (.tmp 47) 33 51 (.slice none 0 0) 24 rfl Try.underlying33 info51 rfl (by decide) (by omega) L Z a1 [.slice d8 a1.length d9] (fun k_=>some k_≠(.slice b2 d.length b3:Value).ownBlock) (fun k_=>some k_=(.slice d8 a1.length d9:Value).ownBlock) rfl rfl ?aP (fun k_ hk_=>((Kd.R_mono (ok' :=fun k_=>((fun k_=>some k_≠(.slice b2 d.length b3:Value).ownBlock)) k_∧some k_≠(L:Value).ownBlock) (Kd.R_apart' (b6.out) (Kd.S_typed x.out) (by decide)) (fun k_ hk=>⟨hk.1.2,hk.2⟩))).1 k_ hk_.symm) ?aF ?aO ?aB ?aS ?aL ?_;(case aP=>exact Kd.M_row (Kd.R_mono (Kd.R_tight rfl (Kd.R_mono (ok' :=fun k_=>((fun k_=>some k_≠(.slice b2 d.length b3:Value).ownBlock)) k_∧some k_≠(L:Value).ownBlock) (Kd.R_apart' (b6.out) (Kd.S_typed x.out) (by decide)) (fun k_ hk=>⟨hk.1.2,hk.2⟩))) (fun _ h_=>h_)));(case aB=>exact qB_);(case aF=>exact(fun k_ hk=>Kd.fresh' (Kd.R_lt (qR_ s)) k_ hk));(case aO=>exact(by(with_reducible repeat(first|apply Kd.S_alloc|apply Kd.S_drewN|apply Kd.S_drew));exact Kd.S_mono x.out (fun k_ hk=>⟨hk.1,fun e_=>hk.2 e_⟩)));(case aS=>exact(below_size qB_));(case aL=>have:=a8.out;omega);intro s8 i8 ho hb hg hat;rw[←a9.out]at ho;have y:=am_ (Kd.R_over' (qR_ v) (Kd.S_typed (qS_ x)) (by decide) hg);have z:=am_ (Kd.R_over' (qR_ s) (Kd.S_typed (qS_ x)) (by decide) hg);have A:=am_ (blk_grown (qk_ i) hg (Kd.S_ne x.out i.out (by decide)));have B:=am_ (blk_grown (qk_ j) hg (Kd.S_ne x.out j.out (by decide)));have D:=am_ (blk_grown (qk_ l) hg (Kd.S_ne x.out l.out (by decide)));have GIVEN_HO291:=am_ (Kd.R_over' b6.out (Kd.S_typed (qS_ x)) (by decide) hg);have G:=am_ (hb);have I:=am_ (ho);clear v s i j l HB x b6;have v:=y;have s:=z;have i:=A;have j:=B;have l:=D;have HB:=G;have c4:=I;clear y z A B D G I ho hb hg hat;obtain⟨b4,b5,i9⟩:=Kd.S_slice c4.out;subst i9;obtain⟨s9,t0,t1,t2⟩:=bc2_ l)|((with_reducible refine gate_builtin (b:= .append) (xs:= #[.tmp 50,.tmp 51]) rfl ?_);at_builtin;refine Kd.R_append_rows (Kd.int .i64) (w0:=w) w.heap.size rfl (.tmp 50) (.tmp 51) 51 3 (.int .i64 0) 8 rfl Try.underlying51 info3 rfl (by decide) (by omega) (.slice b2 d.length b3) d a1 _ _ _ (fun _=>True) (fun _=>False) rfl rfl ?aO ?aR (fun _ _ h=>h) (fun _ h=>h.elim) ?aF ?aB ?aS ?aL ?_;(case aR=>repeat(first|exact(Kd.R_reads' (Kd.R_far (p:=⟨E,1,none⟩) (Kd.R_types GIVEN_HO291.out l.out (by decide)) (fun _ hk=>hk.2) (.slice b4 a2.length b5))).2.2|(with_reducible refine Kd.C_alloc ?_ _)|(with_reducible refine Kd.C_drewN ?_ _)|(with_reducible refine Kd.C_drew ?_)));(case aB=>exact qB_);(case aF=>exact(fun _ _=>trivial));(case aO=>exact(by(with_reducible repeat(first|apply Kd.R_alloc|apply Kd.R_drewN|apply Kd.R_drew));exact Kd.R_mono (Kd.R_far (p:=⟨E,1,none⟩) (Kd.R_types s.out l.out (by decide)) (fun _ hk=>hk.2) (.slice b4 a2.length b5)) (fun _ hk=>trivial)));(case aS=>exact(below_size qB_));(case aL=>have:=b0.out;omega);intro t3 j5 ho hb hg hat;rw[←b1.out]at ho;refine dn7_ (am_ (Kd.R_over' (by(with_reducible repeat(first|apply Kd.R_alloc|apply Kd.R_drewN|apply Kd.R_drew));exact(Kd.R_mono (Kd.R_far (p:=⟨E,1,none⟩) (Kd.R_types v.out l.out (by decide)) (fun _ hk=>hk.2) (.slice b4 a2.length b5)) (fun _ h_=>h_.1))) (Kd.R_typed (by(with_reducible repeat(first|apply Kd.R_alloc|apply Kd.R_drewN|apply Kd.R_drew));exact(Kd.R_mono (Kd.R_far (p:=⟨E,1,none⟩) (Kd.R_types s.out l.out (by decide)) (fun _ hk=>hk.2) (.slice b4 a2.length b5)) (fun _ h_=>h_.1)))) (by decide) hg)) (am_ (blk_grown (g:=M) (o:= .cells #[.int .i64 a,.slice n c.length q] 29 (0,0)) (qf_ i) hg (Kd.R_ne s.out i.out (by decide)))) (am_ (blk_grown (g:=F) (o:= .cells #[.int .i64 a0,.slice none 0 0] 39 (0,0)) (qf_ j) hg (Kd.R_ne s.out j.out (by decide)))) (am_ (blk_grown (g:=E) (o:= .cells #[.int .i64 a,.slice b4 a2.length b5] 39 (0,0)) (qp_ l) hg (Kd.R_ne s.out l.out (by decide)))) (am_ (Kd.S_after (ok:=(fun _=>True)) (by(with_reducible repeat(first|apply Kd.S_alloc|apply Kd.S_drewN|apply Kd.S_drew));exact Kd.S_mono (Kd.S_far (p:=⟨E,1,none⟩) (Kd.S_types c4.out l.out (by decide)) (fun _ hk=>hk.2) (.slice b4 a2.length b5)) (fun _ hk=>⟨trivial,hk.1⟩)) hg hat)) (am_ (hb)) (am_ (ho)) ?_;clear v i j l c4 HB s;intro v i j l c4 HB j6;clear ho hb hg hat))
   go_roundg a6
   case measure=>have:=HK1.out;omega
   case rel=>exact⟨(i1),(wrap64 (m + 1)),(a0),(a2),(.slice b4 a2.length b5),qe_,H',⟨by have:=HK1.out;omega⟩,⟨ra_ v⟩,⟨ra_ j6⟩,⟨by(with_reducible repeat(first|apply Kd.S_alloc|apply Kd.S_drewN|apply Kd.S_drew));exact Kd.S_mono c4.out (fun _ hk=>hk.2)⟩,⟨qk_ i⟩,⟨qk_ j⟩,⟨qk_ l⟩,⟨qB_⟩⟩
def spec_VertsOf.l0:Nat→List Int→List Int→Int→Option (List Int)
  |0,_,_,_=>none
  |k + 1,x0,x3,x4=>if x4<12 then ((spec_l05In.f k x0 x4).bind fun t301=>(if t301=true then (if x3.length<17592186044416 then (spec_VertsOf.l0 k x0 (x3++[x4]) (wrap64 (x4 + 1))) else (none)) else (spec_VertsOf.l0 k x0 x3 (wrap64 (x4 + 1))))) else (some x3)
def spec_VertsOf.f (k:Nat) (l0:List Int):Option (List Int):=spec_VertsOf.l0 k l0 (([]:List Int)) 0
theorem spec_VertsOf.calls (k:Nat) (n:Option Addr) (o:Nat) (l0:List Int) (r:List Int) (w:World) (hr0:Kd.C (Kd.int .i64) w n l0.length l0) (hc0:l0.length≤o) (h:spec_VertsOf.f k l0=some r):
  Calls Try.prog 59 #[.slice n l0.length o] w fun e w' =>∃ l:Value,e= .returned (l)∧Kd.R (Kd.int .i64) 3 w' w.heap.size (fun _=>True) l r∧Below w.heap.size w w' :=by
 have s:=am_ hr0
 have t:=am_ hc0
 clear hr0 hc0
 have HB:=am_ (Below.refl w.heap.size w)
 rw[spec_VertsOf.f]at h;have H:=h;clear h
 generalize d:(([]:List Int))=y at H;replace H:=bh_ H;have g:=am_ d.symm;clear d;have H' :=am_ H;clear H
 go_enter Try.func59,Try.ntmps59
 go_wp2_with (first|((with_reducible refine gd_ 5 ?_);refine Kd.R_lit (Kd.int .i64) _ 3 ?hg (N:=5) ?hd (xs:=([]:List Int)) (inner:=[]) (ok:=fun _=>True) (okp:=fun _=>True) ?hr ?hp (fun _ hk=>hk) trivial (Below.refl _ _) (Nat.le_refl _) (by simp) ?_;(case hd=>rfl);(case hg=>rfl);(case hr=>first|(go_simp;done)|(go_simp;rfl));(case hp=>exact(Reps.none _ _));intro D E ho3 hb hg_ hnew_;clear hg_ hnew_;(first|rw[←g.out]at ho3|(simp only[Int.reduceToNat]at ho3;rw[←g.out]at ho3));have z:=am_ (Kd.R_lower ho3 (below_size qB_));replace HB:=hs_ hb;clear hb ho3))
 go_loopg [3,4] k (fun kq v3 v4 w' =>∃ (c:List Int) (a:Int),v4= .int .i64 a∧Aside0 (spec_VertsOf.l0 kq l0 c a=some r)∧Aside0 (kq≤k)∧Aside0 (Kd.R (Kd.int .i64) 3 w' w.heap.size (fun _=>True) v3 c)∧Aside0 (Below w.heap.size w w'))
 case atStart=>exact⟨(y),(0),qe_,H',⟨Nat.le_refl _⟩,⟨ra_ z⟩,⟨qB_⟩⟩
 case round=>
  clear H'
  obtain⟨c,a,rfl,HA,HK1,p,HB⟩:=hrel
  cases gk with
  |zero=>exact absurd HA.out (by simp [spec_VertsOf.l0])
  |succ q=>
   have H:=HA.out;clear HA
   simp only[spec_VertsOf.l0]at H
   refine ib_ H ?_ ?_<;>clear H<;>intro u H
   ·obtain rfl:=oi_ H
    go_wp2
    go_ret
    exact⟨_,qr_,qR_ p,qB_⟩
   obtain⟨G,v,H⟩:=bs_ H
   refine id_ H ?_ ?_<;>clear H<;>rintro rfl H
   ·have H' :=am_ H;clear H
    go_wp2_with (first|((with_reducible refine gc_ 105 ?_);refine gl_ (some 12) Try.func105 #[.slice n l0.length o,.int .i64 a] ?_;(with_reducible refine(spec_l05In.calls q _ _ l0 a false _ ?_ ?_ v.out).mono ?_);exact qC_ s HB;exact t.out;rintro e w' ⟨rfl,⟨nd,rfl⟩⟩;refine⟨_,rfl,?_⟩))
    go_roundg q
    case measure=>have:=HK1.out;omega
    case rel=>exact⟨(c),(wrap64 (a + 1)),qe_,H',⟨by have:=HK1.out;omega⟩,⟨ra_ p⟩,⟨qB_⟩⟩
   refine jg_ H ?_;clear H;intro x H
   have m:=am_ x
   clear x
   generalize i:(c++[a])=A at H;replace H:=bh_ H;have j:=am_ i.symm;clear i;have H' :=am_ H;clear H
   go_wp2_with (first|((with_reducible refine gc_ 105 ?_);refine gl_ (some 12) Try.func105 #[.slice n l0.length o,.int .i64 a] ?_;(with_reducible refine(spec_l05In.calls q _ _ l0 a true _ ?_ ?_ v.out).mono ?_);exact qC_ s HB;exact t.out;rintro e w' ⟨rfl,⟨nd,rfl⟩⟩;refine⟨_,rfl,?_⟩)|((with_reducible refine gate_builtin (b:= .append) (xs:= #[.tmp 13,.tmp 15]) rfl ?_);at_builtin;refine Kd.R_append (Kd.int .i64) (w0:=w) w.heap.size rfl (.tmp 13) (.tmp 15) 51 3 (.int .i64 0) 8 rfl Try.underlying51 info3 rfl (by decide) (by omega) u3 c a [.int .i64 a] (fun _=>True) (fun _=>False) rfl rfl ?aP (fun _ hk=>hk.elim) ?aF ?aO ?aB ?aS ?aL ?_;(case aP=>exact rfl);(case aB=>exact qB_);(case aF=>exact(fun _ _=>trivial));(case aO=>exact(qR_ p));(case aS=>exact(below_size qB_));(case aL=>have:=m.out;omega);intro I J ho hb hg hat;rw[←j.out]at ho;have B:=am_ (ho);replace HB:=am_ (hb);clear p ho hb hg hat))
   go_roundg q
   case measure=>have:=HK1.out;omega
   case rel=>exact⟨(A),(wrap64 (a + 1)),qe_,H',⟨by have:=HK1.out;omega⟩,⟨ra_ B⟩,⟨qB_⟩⟩
mutual
def spec_l06Open.l0:Nat→List Int→List Int→List Int→Int→Option (Bool)
  |0,_,_,_,_=>none
  |k + 1,x0,x3,x4,x5=>if x5<(x0.length:Int) then (if (x3.length:Int)>1 then (if 0≤x5 then (if 0≤(wrap64 ((x3.length:Int) - 2)) then (if (wrap64 ((x3.length:Int) - 2))<(x3.length:Int) then (spec_l06Open.j1 k x0 x3 x4 x5 ((rd x0 x5)==(rd x3 (wrap64 ((x3.length:Int) - 2))))) else (none)) else (none)) else (none)) else (spec_l06Open.j1 k x0 x3 x4 x5 false)) else (some ((x3.length:Int)==1))
def spec_l06Open.j1:Nat→List Int→List Int→List Int→Int→Bool→Option (Bool)
  |0,_,_,_,_,_=>none
  |k + 1,x0,x3,x4,x5,x35=>if x35=true then (if 0≤(wrap64 ((x3.length:Int) - 1)) then (if (wrap64 ((x3.length:Int) - 1))≤(x3.length:Int) then (spec_l06Open.l0 k x0 (x3.take ((wrap64 ((x3.length:Int) - 1)):Int).toNat) x4 (wrap64 (x5 + 1))) else (none)) else (none)) else (if 0≤x5 then (if x5<(x0.length:Int) then ((spec_l05In.f k x4 (rd x0 x5)).bind fun t319=>(if t319=true then (some false) else (if x4.length<17592186044416 then (if x3.length<17592186044416 then (spec_l06Open.l0 k x0 (x3++[rd x0 x5]) (x4++[rd x0 x5]) (wrap64 (x5 + 1))) else (none)) else (none)))) else (none)) else (none))
end
def spec_l06Open.f (k:Nat) (l0:List Int):Option (Bool):=if 0<(l0.length:Int) then (spec_l06Open.l0 k l0 (([rd l0 0]:List Int)) (([rd l0 0]:List Int)) 1) else (none)
theorem spec_l06Open.calls (k:Nat) (f6:Option Addr) (f7:Nat) (l0:List Int) (r:Bool) (w:World) (hr0:Kd.C (Kd.int .i64) w f6 l0.length l0) (hc0:l0.length≤f7) (h:spec_l06Open.f k l0=some r):
  Calls Try.prog 134 #[.slice f6 l0.length f7] w fun e w' =>e= .returned (.bool r)∧Below w.heap.size w w' :=by
 have a1:=am_ hr0
 have i8:=am_ hc0
 clear hr0 hc0
 have HB:=am_ (Below.refl w.heap.size w)
 rw[spec_l06Open.f]at h;have H:=h;clear h
 refine jg_ H ?_;clear H;intro e1 H
 have b3:=decide_eq_true e1
 have b4:decide (0<l0.length)=true:=decide_eq_true (by omega)
 clear e1
 obtain⟨f8,I⟩:∃ y_:List Int,y_=(([rd l0 0]:List Int)):=⟨_,rfl⟩
 replace H:(spec_l06Open.l0 k l0 f8 (([rd l0 0]:List Int)) 1)=some r:=hq_ I H
 have t:=am_ I
 clear I
 generalize a3:(([rd l0 0]:List Int))=g5 at H;replace H:=bh_ H;have u:=am_ a3.symm;clear a3;have H' :=am_ H;clear H
 have x:0≤(0:Int):=(by omega)
 have y:=dl_ 0 l0.length
 obtain⟨g,d0,e2⟩:=Kd.at_int a1.out 0 x y
 cases d0
 have qi305:(0<l0.length)=True:=eq_true (by omega)
 rw[show((0:Int)).toNat=0 from rfl]at e2
 rw[Addr.add_zero']at e2
 replace x:=eq_true x;replace y:=eq_true y
 go_enter Try.func134,Try.ntmps134
 go_wp2_with (first|((with_reducible refine gd_ 9 ?_);((refine gate_guard (by rfl) ?_;dsimp only));refine Kd.R_lit (Kd.int .i64) _ 3 ?hg (N:=9) ?hd (xs:=([rd l0 0]:List Int)) (inner:=[.int .i64 (rd l0 0)]) (ok:=fun _=>True) (okp:=fun _=>True) ?hr ?hp (fun _ hk=>hk) trivial (Below.refl _ _) (Nat.le_refl _) (by simp) ?_;(case hd=>rfl);(case hg=>rfl);(case hr=>first|(go_simp;done)|(go_simp;rfl));(case hp=>exact(Reps.one (show Kd.M (Kd.int .i64) _ _ _ (rd l0 0) [.int .i64 (rd l0 0)] from rfl) (Reps.none _ _)));intro g6 g7 ho4 hb hg_ hnew_;clear hg_ hnew_;(first|rw[←t.out]at ho4|(simp only[Int.reduceToNat]at ho4;rw[←t.out]at ho4));have b5:=am_ (Kd.R_lower ho4 (below_size qB_));replace HB:=hs_ hb;clear hb ho4;have i:0≤(0:Int):=(by omega);have j:=dl_ 0 l0.length;obtain⟨J,a4,a5⟩:=Kd.at_int a1.out 0 i j;obtain rfl:g=J:=(by injection a4);have qi309:(0<l0.length)=True:=eq_true (by omega);rw[show((0:Int)).toNat=0 from rfl]at a5;rw[Addr.add_zero']at a5;replace a5:=qx_ HB a5;replace i:=eq_true i;replace j:=eq_true j)|((with_reducible refine gd_ 13 ?_);((refine gate_guard (by rfl) ?_;dsimp only));refine Kd.R_lit (Kd.int .i64) _ 3 ?hg (N:=13) ?hd (xs:=([rd l0 0]:List Int)) (inner:=[.int .i64 (rd l0 0)]) (ok:=fun _=>True) (okp:=fun _=>True) ?hr ?hp (fun _ hk=>hk) trivial (Below.refl _ _) (Nat.le_refl _) (by simp) ?_;(case hd=>rfl);(case hg=>rfl);(case hr=>first|(go_simp;done)|(go_simp;rfl));(case hp=>exact(Reps.one (show Kd.M (Kd.int .i64) _ _ _ (rd l0 0) [.int .i64 (rd l0 0)] from rfl) (Reps.none _ _)));intro g8 g9 ho6 hb hg_ hnew_;clear hg_ hnew_;(first|rw[←u.out]at ho6|(simp only[Int.reduceToNat]at ho6;rw[←u.out]at ho6));have f9:=am_ (Kd.R_lower (Kd.R_new' ho6 (Kd.R_lt (qR_ b5))) (below_size qB_));replace b5:=ke_ b5 ho6 hb;replace HB:=hs_ hb;clear hb ho6))
 repeat(go_quiet (fail);try go_wp2_with (first|((with_reducible refine gd_ 9 ?_);(try(refine gate_guard (by rfl) ?_;dsimp only));refine Kd.R_lit (Kd.int .i64) _ 3 ?hg (N:=9) ?hd (xs:=([rd l0 0]:List Int)) (inner:=[.int .i64 (rd l0 0)]) (ok:=fun _=>True) (okp:=fun _=>True) ?hr ?hp (fun _ hk=>hk) trivial (Below.refl _ _) (Nat.le_refl _) (by simp) ?_;(case hd=>rfl);(case hg=>rfl);(case hr=>first|(go_simp;done)|(go_simp;rfl));(case hp=>exact(Reps.one (show Kd.M (Kd.int .i64) _ _ _ (rd l0 0) [.int .i64 (rd l0 0)] from rfl) (Reps.none _ _)));intro g6 g7 ho4 hb hg_ hnew_;clear hg_ hnew_;(first|rw[←t.out]at ho4|(simp only[Int.reduceToNat]at ho4;rw[←t.out]at ho4));have b5:=am_ (Kd.R_lower ho4 (below_size qB_));replace HB:=hs_ hb;clear hb ho4;have i:0≤(0:Int):=(by omega);have j:=dl_ 0 l0.length;obtain⟨J,a4,a5⟩:=Kd.at_int a1.out 0 i j;obtain rfl:g=J:=(by injection a4);have qi309:(0<l0.length)=True:=eq_true (by omega);(try rw[show((0:Int)).toNat=0 from rfl]at a5);(try rw[Addr.add_zero']at a5);replace a5:=qx_ HB a5;replace i:=eq_true i;replace j:=eq_true j)|((with_reducible refine gd_ 13 ?_);(try(refine gate_guard (by rfl) ?_;dsimp only));refine Kd.R_lit (Kd.int .i64) _ 3 ?hg (N:=13) ?hd (xs:=([rd l0 0]:List Int)) (inner:=[.int .i64 (rd l0 0)]) (ok:=fun _=>True) (okp:=fun _=>True) ?hr ?hp (fun _ hk=>hk) trivial (Below.refl _ _) (Nat.le_refl _) (by simp) ?_;(case hd=>rfl);(case hg=>rfl);(case hr=>first|(go_simp;done)|(go_simp;rfl));(case hp=>exact(Reps.one (show Kd.M (Kd.int .i64) _ _ _ (rd l0 0) [.int .i64 (rd l0 0)] from rfl) (Reps.none _ _)));intro g8 g9 ho6 hb hg_ hnew_;clear hg_ hnew_;(first|rw[←u.out]at ho6|(simp only[Int.reduceToNat]at ho6;rw[←u.out]at ho6));have f9:=am_ (Kd.R_lower (Kd.R_new' ho6 (Kd.R_lt (qR_ b5))) (below_size qB_));replace b5:=ke_ b5 ho6 hb;replace HB:=hs_ hb;clear hb ho6)))
 go_loopg [3,4,5] k (fun kq v3 v4 v5 w' =>∃ (c:List Int) (d:List Int) (a:Int),v5= .int .i64 a∧Aside0 (spec_l06Open.l0 kq l0 c d a=some r)∧Aside0 (kq≤k)∧Aside0 (Kd.R (Kd.int .i64) 3 w' w.heap.size (fun k_=>some k_≠(v4:Value).ownBlock) v3 c)∧Aside0 (Kd.R (Kd.int .i64) 3 w' w.heap.size (fun k_=>some k_≠(v3:Value).ownBlock) v4 d)∧Aside0 (Below w.heap.size w w'))
 case atStart=>exact⟨(f8),(g5),(1),qe_,H',⟨Nat.le_refl _⟩,⟨by(with_reducible repeat(first|apply Kd.R_alloc|apply Kd.R_drewN|apply Kd.R_drew));exact Kd.R_mono b5.out (fun _ hk=>hk.2)⟩,⟨by(with_reducible repeat(first|apply Kd.R_alloc|apply Kd.R_drewN|apply Kd.R_drew));exact Kd.R_mono f9.out (fun _ hk=>hk.2)⟩,⟨qB_⟩⟩
 case round=>
  clear H' b3 b4 e2 a5 x i y j
  obtain⟨c,d,a,rfl,HA,HK1,l,n,HB⟩:=hrel
  cases gk with
  |zero=>exact absurd HA.out (by simp [spec_l06Open.l0])
  |succ h2=>
   have H:=HA.out;clear HA
   simp only[spec_l06Open.l0]at H
   refine ib_ H ?_ ?_<;>clear H<;>intro d1 H
   ·obtain rfl:=oi_ H
    obtain⟨i9,j5,h3⟩:=Kd.R_slice l.out
    subst h3
    go_wp2
    repeat(go_quiet (fail);try go_wp2)
    go_ret
    exact⟨qr_,qB_⟩
   have e4:=am_ H
   clear H
   go_upto_region 6 with (fail)
   repeat(go_quiet (fail);go_upto_region 6 with (fail))
   go_cut [35] (fun v35 wc=>∃ (kq:Nat) (L:Bool),v35= .bool L∧Aside0 (spec_l06Open.j1 kq l0 c d a L=some r)∧Aside0 (kq≤h2)∧Aside0 (Kd.R (Kd.int .i64) 3 wc w.heap.size (fun k_=>some k_≠(u4:Value).ownBlock) u3 c)∧Aside0 (Kd.R (Kd.int .i64) 3 wc w.heap.size (fun k_=>some k_≠(u3:Value).ownBlock) u4 d)∧Aside0 (Below w.heap.size w wc))
   case first=>
    have H:=e4.out;clear e4
    refine jb_ H ?_ ?_<;>clear H<;>intro d2 H
    ·have q:decide (1<(c.length:Int))=false:=decide_eq_false d2
     have Z:decide (1<c.length)=false:=decide_eq_false (by omega)
     clear d2
     (first|rw[q]|rw[Z]|(simp only[i64_w,i32_w];rw[q])|skip)
     have H' :=am_ H;clear H
     obtain⟨j6,j7,h4⟩:=Kd.R_slice l.out
     subst h4
     go_wp2
     repeat(go_quiet (fail);try go_wp2)
     go_meet
     case rel=>exact⟨_,(false),qe_,H',⟨by have:=HK1.out;first|omega|exact Nat.le_refl _⟩,⟨ra_ l⟩,⟨ra_ n⟩,⟨qB_⟩⟩
    have q:decide (1<(c.length:Int))=true:=decide_eq_true d2
    have Z:decide (1<c.length)=true:=decide_eq_true (by omega)
    clear d2
    (first|rw[q]|rw[Z]|(simp only[i64_w,i32_w];rw[q])|skip)
    refine ig_ H ?_;clear H;intro c3 H
    obtain⟨z,v⟩:∃ j_:Int,(wrap64 ((c.length:Int) - 2))=j_:=⟨_,rfl⟩
    first|rw[v]at H|simp only[v]at H
    have hji11w:(IntKind.i64.wrap ((c.length:Int) - 2))=z:=(i64_w _).trans v
    refine ig_ H ?_;clear H;intro c4 H
    refine ig_ H ?_;clear H;intro c5 H
    have H' :=am_ H;clear H
    obtain⟨j8,j9,h5⟩:=Kd.R_slice l.out
    subst h5
    have b6:=dt_ a
    have b7:=du_ a l0.length
    obtain⟨c6,d3,e5⟩:=Kd.at_int a1.out a (ot_ b6) (ot_ b7)
    obtain rfl:g=c6:=(by injection d3)
    replace e5:=qx_ HB e5
    have b8:=dt_ ((z))
    have b9:=du_ (z) c.length
    obtain⟨e6,d4,h6⟩:=Kd.at_int (Kd.R_reads' l.out).2.2 (z) (ot_ b8) (ot_ b9)
    cases d4
    go_wp2
    repeat(go_quiet (fail);try go_wp2)
    go_meet
    case rel=>exact⟨_,(((rd l0 a)==(rd c (z)))),(by first|rfl|(simp;done)|(simp only[←v]<;>(first|rfl|simp))|(simp [*];done)),H',⟨by have:=HK1.out;first|omega|exact Nat.le_refl _⟩,⟨ra_ l⟩,⟨ra_ n⟩,⟨qB_⟩⟩
   case rest=>
    clear e4 d1
    obtain⟨kq,L,rfl,HA,e3,l,n,HB⟩:=hcut
    cases kq with
    |zero=>exact absurd HA.out (by simp [spec_l06Open.j1])
    |succ kj7=>
     have H:=HA.out;clear HA
     simp only[spec_l06Open.j1]at H
     refine ie_ H ?_ ?_<;>clear H<;>rintro rfl H
     ·obtain⟨s,O⟩:∃ j_:Int,(wrap64 ((c.length:Int) - 1))=j_:=⟨_,rfl⟩
      first|rw[O]at H|simp only[O]at H
      have hji17w:(IntKind.i64.wrap ((c.length:Int) - 1))=s:=(i64_w _).trans O
      refine jg_ H ?_;clear H;intro c7 H
      have e7:=eq_true c7
      have e8:=decide_eq_true c7
      clear c7
      refine jg_ H ?_;clear H;intro c8 H
      have e9:=eq_true c8
      have f0:=decide_eq_true c8
      clear c8
      generalize a6:(c.take ((s):Int).toNat)=g3 at H;replace H:=bh_ H;have a7:=am_ a6.symm;clear a6;have H' :=am_ H;clear H
      obtain⟨i0,i1,i2⟩:=Kd.R_slice l.out
      subst i2
      have c9:((s):Int)≤((c.length:Int):Int):=of_decide_eq_true qa_
      obtain⟨i021,hi021,_,hsz21,_⟩:=info_parts info3
      have hcut21:=cut_to (P:=Try.prog) 51 3 .i64 Try.underlying51 hi021 i0 c.length i1 (s) (of_decide_eq_true qa_) c9 (Kd.R_reads' l.out).2.1
      have hr21:=Kd.R_take (m:=((s):Int).toNat) l.out (by omega)
      have c0:g3.length=((s):Int).toNat:=(by rw[a7.out,List.length_take];omega)
      rw[←a7.out]at hr21
      rw[←c0]at hr21 hcut21
      clear c0 hi021 hsz21 l
      have i3:=am_ hr21
      clear hr21;replace c9:=eq_true c9
      go_wp2
      repeat(go_quiet (fail);try go_wp2)
      go_roundg kj7
      case measure=>have:=HK1.out;have:=e3.out;omega
      case rel=>exact⟨(g3),(d),(wrap64 (a + 1)),qe_,H',⟨by have:=HK1.out;have:=e3.out;omega⟩,⟨ra_ i3⟩,⟨ra_ n⟩,⟨qB_⟩⟩
     refine ig_ H ?_;clear H;intro f1 H
     refine ig_ H ?_;clear H;intro f2 H
     obtain⟨k2,a0,H⟩:=bs_ H
     refine ie_ H ?_ ?_<;>clear H<;>rintro rfl H
     ·obtain rfl:=oi_ H
      have a8:=dt_ a
      have a9:=du_ a l0.length
      obtain⟨T,b0,d5⟩:=Kd.at_int a1.out a (ot_ a8) (ot_ a9)
      obtain rfl:g=T:=(by injection b0)
      replace d5:=qx_ HB d5
      obtain⟨k3,k4,i4⟩:=Kd.R_slice n.out
      subst i4
      go_wp2_with (first|(go_at_call 105;(with_reducible refine(spec_l05In.calls kj7 _ _ d (rd l0 a) true _ ?_ ?_ a0.out).mono ?_);exact qD_ (Kd.R_reads' n.out).2.2;exact(Kd.R_reads' n.out).2.1;rintro e w' ⟨rfl,⟨nd,rfl⟩⟩))
      repeat(go_quiet (first|(go_at_call 105;(with_reducible refine(spec_l05In.calls kj7 _ _ d (rd l0 a) true _ ?_ ?_ a0.out).mono ?_);exact qD_ (Kd.R_reads' n.out).2.2;exact(Kd.R_reads' n.out).2.1;rintro e w' ⟨rfl,⟨nd,rfl⟩⟩;(try first|exact⟨rfl,_,World.drewN_drewN _ _ _⟩|exact⟨rfl,_,Eq.trans (World.drewN_drewN _ _ _) (congrArg (World.drewN _) (Nat.add_assoc _ _ _))⟩)));try go_wp2_with (first|(go_at_call 105;(with_reducible refine(spec_l05In.calls kj7 _ _ d (rd l0 a) true _ ?_ ?_ a0.out).mono ?_);exact qD_ (Kd.R_reads' n.out).2.2;exact(Kd.R_reads' n.out).2.1;rintro e w' ⟨rfl,⟨nd,rfl⟩⟩;(try first|exact⟨rfl,_,World.drewN_drewN _ _ _⟩|exact⟨rfl,_,Eq.trans (World.drewN_drewN _ _ _) (congrArg (World.drewN _) (Nat.add_assoc _ _ _))⟩))))
      go_ret
      exact⟨qr_,qB_⟩
     refine jg_ H ?_;clear H;intro d6 H
     have U:=am_ d6
     clear d6
     generalize b1:(d++[rd l0 a])=i5 at H;replace H:=bh_ H;have V:=am_ b1.symm;clear b1
     refine jg_ H ?_;clear H;intro d7 H
     have X:=am_ d7
     clear d7
     generalize b2:(c++[rd l0 a])=i6 at H;replace H:=bh_ H;have Y:=am_ b2.symm;clear b2;have H' :=am_ H;clear H
     have a8:=dt_ a
     have a9:=du_ a l0.length
     obtain⟨T,b0,d5⟩:=Kd.at_int a1.out a (ot_ a8) (ot_ a9)
     obtain rfl:g=T:=(by injection b0)
     replace d5:=qx_ HB d5
     obtain⟨f3,f4,i7⟩:=Kd.R_slice n.out
     subst i7
     go_wp2_with (first|(go_at_call 105;(with_reducible refine(spec_l05In.calls kj7 _ _ d (rd l0 a) false _ ?_ ?_ a0.out).mono ?_);exact qD_ (Kd.R_reads' n.out).2.2;exact(Kd.R_reads' n.out).2.1;rintro e w' ⟨rfl,⟨nd,rfl⟩⟩;have A:=dt_ a;have B:=du_ a l0.length;obtain⟨o,D,c1⟩:=Kd.at_int a1.out a (ot_ A) (ot_ B);obtain rfl:g=o:=(by injection D);replace c1:=qx_ HB c1;)|((with_reducible refine gate_builtin (b:= .append) (xs:= #[.tmp 47,.tmp 52]) rfl ?_);((refine gate_guard (by rfl) ?_;dsimp only));at_builtin;refine Kd.R_append (Kd.int .i64) (w0:=w) w.heap.size rfl (.tmp 47) (.tmp 52) 51 3 (.int .i64 0) 8 rfl Try.underlying51 info3 rfl (by decide) (by omega) (.slice f3 d.length f4) d (rd l0 a) [.int .i64 (rd l0 a)] (fun k_=>some k_≠(u3:Value).ownBlock) (fun _=>False) rfl rfl ?aP (fun _ hk=>hk.elim) ?aF ?aO ?aB ?aS ?aL ?_;(case aP=>exact rfl);(case aB=>exact qB_);(case aF=>exact(fun k_ hk=>Kd.fresh' (Kd.R_lt (qR_ l)) k_ hk));(case aO=>exact(qR_ n));(case aS=>exact(below_size qB_));(case aL=>have:=U.out;omega);intro d8 d9 ho hb hg hat;rw[←V.out]at ho;have a2:=am_ (ho);replace l:=am_ (Kd.R_after (ok:=(fun _=>True)) (by(with_reducible repeat(first|apply Kd.R_alloc|apply Kd.R_drewN|apply Kd.R_drew));exact Kd.R_mono l.out (fun _ hk=>⟨trivial,hk⟩)) hg hat);replace HB:=am_ (hb);clear n ho hb hg hat;have E:=dt_ a;have F:=du_ a l0.length;obtain⟨p,G,c2⟩:=Kd.at_int a1.out a (ot_ E) (ot_ F);obtain rfl:g=p:=(by injection G);replace c2:=qx_ HB c2;)|((with_reducible refine gate_builtin (b:= .append) (xs:= #[.tmp 54,.tmp 59]) rfl ?_);((refine gate_guard (by rfl) ?_;dsimp only));at_builtin;refine Kd.R_append (Kd.int .i64) (w0:=w) w.heap.size rfl (.tmp 54) (.tmp 59) 51 3 (.int .i64 0) 8 rfl Try.underlying51 info3 rfl (by decide) (by omega) u3 c (rd l0 a) [.int .i64 (rd l0 a)] (fun k_=>some k_≠(d8:Value).ownBlock) (fun _=>False) rfl rfl ?aP (fun _ hk=>hk.elim) ?aF ?aO ?aB ?aS ?aL ?_;(case aP=>exact rfl);(case aB=>exact qB_);(case aF=>exact(fun k_ hk=>Kd.fresh' (Kd.R_lt (qR_ a2)) k_ hk));(case aO=>exact(by(with_reducible repeat(first|apply Kd.R_alloc|apply Kd.R_drewN|apply Kd.R_drew));exact Kd.R_mono l.out (fun _ hk=>hk.2)));(case aS=>exact(below_size qB_));(case aL=>have:=X.out;omega);intro g4 e0 ho hb hg hat;rw[←Y.out]at ho;have f5:=am_ (ho);replace a2:=am_ (Kd.R_after (ok:=(fun _=>True)) (by(with_reducible repeat(first|apply Kd.R_alloc|apply Kd.R_drewN|apply Kd.R_drew));exact Kd.R_mono a2.out (fun _ hk=>⟨trivial,hk⟩)) hg hat);replace HB:=am_ (hb);clear l ho hb hg hat))
     have A:=dt_ a
     have B:=du_ a l0.length
     obtain⟨o,D,c1⟩:=Kd.at_int a1.out a (ot_ A) (ot_ B)
     obtain rfl:g=o:=(by injection D)
     replace c1:=qx_ HB c1
     repeat(go_quiet (first|(go_at_call 105;(with_reducible refine(spec_l05In.calls kj7 _ _ d (rd l0 a) false _ ?_ ?_ a0.out).mono ?_);exact qD_ (Kd.R_reads' n.out).2.2;exact(Kd.R_reads' n.out).2.1;rintro e w' ⟨rfl,⟨nd,rfl⟩⟩;(try first|exact⟨rfl,_,World.drewN_drewN _ _ _⟩|exact⟨rfl,_,Eq.trans (World.drewN_drewN _ _ _) (congrArg (World.drewN _) (Nat.add_assoc _ _ _))⟩))|((with_reducible refine gate_builtin (b:= .append) (xs:= #[.tmp 47,.tmp 52]) rfl ?_);(try(refine gate_guard (by rfl) ?_;dsimp only));at_builtin;refine Kd.R_append (Kd.int .i64) (w0:=w) w.heap.size rfl (.tmp 47) (.tmp 52) 51 3 (.int .i64 0) 8 rfl Try.underlying51 info3 rfl (by decide) (by omega) (.slice f3 d.length f4) d (rd l0 a) [.int .i64 (rd l0 a)] (fun k_=>some k_≠(u3:Value).ownBlock) (fun _=>False) rfl rfl ?aP (fun _ hk=>hk.elim) ?aF ?aO ?aB ?aS ?aL ?_;(case aP=>exact rfl);(case aB=>exact qB_);(case aF=>exact(fun k_ hk=>Kd.fresh' (Kd.R_lt (qR_ l)) k_ hk));(case aO=>exact(qR_ n));(case aS=>exact(below_size qB_));(case aL=>have:=U.out;omega);intro d8 d9 ho hb hg hat;rw[←V.out]at ho;have a2:=am_ (ho);replace l:=am_ (Kd.R_after (ok:=(fun _=>True)) (by(with_reducible repeat(first|apply Kd.R_alloc|apply Kd.R_drewN|apply Kd.R_drew));exact Kd.R_mono l.out (fun _ hk=>⟨trivial,hk⟩)) hg hat);replace HB:=am_ (hb);clear n ho hb hg hat;have E:=dt_ a;have F:=du_ a l0.length;obtain⟨p,G,c2⟩:=Kd.at_int a1.out a (ot_ E) (ot_ F);obtain rfl:g=p:=(by injection G);replace c2:=qx_ HB c2;)|((with_reducible refine gate_builtin (b:= .append) (xs:= #[.tmp 54,.tmp 59]) rfl ?_);(try(refine gate_guard (by rfl) ?_;dsimp only));at_builtin;refine Kd.R_append (Kd.int .i64) (w0:=w) w.heap.size rfl (.tmp 54) (.tmp 59) 51 3 (.int .i64 0) 8 rfl Try.underlying51 info3 rfl (by decide) (by omega) u3 c (rd l0 a) [.int .i64 (rd l0 a)] (fun k_=>some k_≠(d8:Value).ownBlock) (fun _=>False) rfl rfl ?aP (fun _ hk=>hk.elim) ?aF ?aO ?aB ?aS ?aL ?_;(case aP=>exact rfl);(case aB=>exact qB_);(case aF=>exact(fun k_ hk=>Kd.fresh' (Kd.R_lt (qR_ a2)) k_ hk));(case aO=>exact(by(with_reducible repeat(first|apply Kd.R_alloc|apply Kd.R_drewN|apply Kd.R_drew));exact Kd.R_mono l.out (fun _ hk=>hk.2)));(case aS=>exact(below_size qB_));(case aL=>have:=X.out;omega);intro g4 e0 ho hb hg hat;rw[←Y.out]at ho;have f5:=am_ (ho);replace a2:=am_ (Kd.R_after (ok:=(fun _=>True)) (by(with_reducible repeat(first|apply Kd.R_alloc|apply Kd.R_drewN|apply Kd.R_drew));exact Kd.R_mono a2.out (fun _ hk=>⟨trivial,hk⟩)) hg hat);replace HB:=am_ (hb);clear l ho hb hg hat));try go_wp2_with (first|(go_at_call 105;(with_reducible refine(spec_l05In.calls kj7 _ _ d (rd l0 a) false _ ?_ ?_ a0.out).mono ?_);exact qD_ (Kd.R_reads' n.out).2.2;exact(Kd.R_reads' n.out).2.1;rintro e w' ⟨rfl,⟨nd,rfl⟩⟩;(try first|exact⟨rfl,_,World.drewN_drewN _ _ _⟩|exact⟨rfl,_,Eq.trans (World.drewN_drewN _ _ _) (congrArg (World.drewN _) (Nat.add_assoc _ _ _))⟩);have A:=dt_ a;have B:=du_ a l0.length;obtain⟨o,D,c1⟩:=Kd.at_int a1.out a (ot_ A) (ot_ B);obtain rfl:g=o:=(by injection D);replace c1:=qx_ HB c1;)|((with_reducible refine gate_builtin (b:= .append) (xs:= #[.tmp 47,.tmp 52]) rfl ?_);(try(refine gate_guard (by rfl) ?_;dsimp only));at_builtin;refine Kd.R_append (Kd.int .i64) (w0:=w) w.heap.size rfl (.tmp 47) (.tmp 52) 51 3 (.int .i64 0) 8 rfl Try.underlying51 info3 rfl (by decide) (by omega) (.slice f3 d.length f4) d (rd l0 a) [.int .i64 (rd l0 a)] (fun k_=>some k_≠(u3:Value).ownBlock) (fun _=>False) rfl rfl ?aP (fun _ hk=>hk.elim) ?aF ?aO ?aB ?aS ?aL ?_;(case aP=>exact rfl);(case aB=>exact qB_);(case aF=>exact(fun k_ hk=>Kd.fresh' (Kd.R_lt (qR_ l)) k_ hk));(case aO=>exact(qR_ n));(case aS=>exact(below_size qB_));(case aL=>have:=U.out;omega);intro d8 d9 ho hb hg hat;rw[←V.out]at ho;have a2:=am_ (ho);replace l:=am_ (Kd.R_after (ok:=(fun _=>True)) (by(with_reducible repeat(first|apply Kd.R_alloc|apply Kd.R_drewN|apply Kd.R_drew));exact Kd.R_mono l.out (fun _ hk=>⟨trivial,hk⟩)) hg hat);replace HB:=am_ (hb);clear n ho hb hg hat;have E:=dt_ a;have F:=du_ a l0.length;obtain⟨p,G,c2⟩:=Kd.at_int a1.out a (ot_ E) (ot_ F);obtain rfl:g=p:=(by injection G);replace c2:=qx_ HB c2;)|((with_reducible refine gate_builtin (b:= .append) (xs:= #[.tmp 54,.tmp 59]) rfl ?_);(try(refine gate_guard (by rfl) ?_;dsimp only));at_builtin;refine Kd.R_append (Kd.int .i64) (w0:=w) w.heap.size rfl (.tmp 54) (.tmp 59) 51 3 (.int .i64 0) 8 rfl Try.underlying51 info3 rfl (by decide) (by omega) u3 c (rd l0 a) [.int .i64 (rd l0 a)] (fun k_=>some k_≠(d8:Value).ownBlock) (fun _=>False) rfl rfl ?aP (fun _ hk=>hk.elim) ?aF ?aO ?aB ?aS ?aL ?_;(case aP=>exact rfl);(case aB=>exact qB_);(case aF=>exact(fun k_ hk=>Kd.fresh' (Kd.R_lt (qR_ a2)) k_ hk));(case aO=>exact(by(with_reducible repeat(first|apply Kd.R_alloc|apply Kd.R_drewN|apply Kd.R_drew));exact Kd.R_mono l.out (fun _ hk=>hk.2)));(case aS=>exact(below_size qB_));(case aL=>have:=X.out;omega);intro g4 e0 ho hb hg hat;rw[←Y.out]at ho;have f5:=am_ (ho);replace a2:=am_ (Kd.R_after (ok:=(fun _=>True)) (by(with_reducible repeat(first|apply Kd.R_alloc|apply Kd.R_drewN|apply Kd.R_drew));exact Kd.R_mono a2.out (fun _ hk=>⟨trivial,hk⟩)) hg hat);replace HB:=am_ (hb);clear l ho hb hg hat)))
     go_roundg kj7
     case measure=>have:=HK1.out;have:=e3.out;omega
     case rel=>exact⟨(i6),(i5),(wrap64 (a + 1)),qe_,H',⟨by have:=HK1.out;have:=e3.out;omega⟩,⟨ra_ f5⟩,⟨by(with_reducible repeat(first|apply Kd.R_alloc|apply Kd.R_drewN|apply Kd.R_drew));exact Kd.R_mono a2.out (fun _ hk=>hk.2)⟩,⟨qB_⟩⟩
end Go.Proofs.Ytbkklafkoegdpaa.QFnTakes

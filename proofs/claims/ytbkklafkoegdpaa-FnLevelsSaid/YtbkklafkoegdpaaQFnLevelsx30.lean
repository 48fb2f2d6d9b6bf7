import Derived.Test.YtbkklafkoegdpaaQFnLevelsx5
import Derived.Test.YtbkklafkoegdpaaQFnLevelsx29
namespace Go.Proofs.Ytbkklafkoegdpaa.QFnLevels
open Go.RowKit Go.Proofs.YtbkklafkoegdpaaW.PrintWords Go.Proofs.YtbkklafkoegdpaaW.PrintLast Go.Proofs.YtbkklafkoegdpaaW.PrintMore
set_option maxHeartbeats 8000000
set_option maxRecDepth 100000
set_option linter.unusedVariables false
set_option linter.unusedSimpArgs false
mutual
def impl_ForestAt.l0:Nat→Int→List (S72)→Int→Int→Int→List (S72)→Option (Int × (List (List Int)) × Bool)
  |0,_,_,_,_,_,_=>none
  |k + 1,x1,x18,x19,x20,x698000,x698001=>if x20<x19 then (if 0≤x20 then (if x20<(x18.length:Int) then ((impl_EdgeOk.f x698000 ((rd_T72 x18 x20).f0) ((rd_T72 x18 x20).f1)).bind fun t702=>(if t702=true then (impl_ForestAt.l0 k x1 x18 x19 (wrap64 (x20 + 1)) x698000 x698001) else (some (0,([]:List (List Int)),false)))) else (none)) else (none)) else ((impl_treeEdges.f k x698000 x698001).bind fun t703=>((impl_rings.f k x698000 t703).bind fun t706=>(if t706=true then (some (0,([]:List (List Int)),false)) else ((impl_labelsAt.f k x698000 x698001 x1).bind fun t707=>((impl_forest.f k x698000 x698001 x1).bind fun t710=>(impl_ForestAt.l1 k t707 t710 x698000 0 x698000 ([]:List (List Int))))))))
def impl_ForestAt.l1:Nat→List Int→List (S43)→Int→Int→Int→List (List Int)→Option (Int × (List (List Int)) × Bool)
  |0,_,_,_,_,_,_=>none
  |k + 1,x8,x9,x51,x52,x714000,x714001=>if x52<x51 then (if 0≤x52 then (if x52<(x8.length:Int) then (if (rd x8 x52)=x52 then ((impl_walk.f k x9 x52 (-1)).bind fun t715=>(if x714001.length<5864062014805 then (impl_ForestAt.l1 k x8 x9 x51 (wrap64 (x52 + 1)) x714000 (x714001++[t715])) else (none))) else (impl_ForestAt.l1 k x8 x9 x51 (wrap64 (x52 + 1)) x714000 x714001)) else (none)) else (none)) else (some (x714000,x714001,true))
end
def impl_ForestAt.f (k:Nat) (a0_0:Int) (l0_1:List (S72)) (a1:Int):Option (Int × (List (List Int)) × Bool):=(impl_in.f a0_0 1 12).bind fun t699=>(if t699=true then (impl_ForestAt.l0 k a1 l0_1 (l0_1.length:Int) 0 a0_0 l0_1) else (some (0,([]:List (List Int)),false)))
def impl_ForestAt.T18:Bool × List (List Nat × List Nat):=(true,[([],[]),([0],[0]),([],[]),([],[]),([2,3],[2,3]),([4],[4]),([1,5,4],[1,5]),([0,1,2,3,4,5,6],[]),([7,6,6,0,1,2,3,4,5,6],[6,7])])
def impl_ForestAt.B18:List Nat:=[0,1,0,0,12,28,63,127,255]
theorem impl_ForestAt.tab18:rtab .any (opsOf Try.f50 18)=impl_ForestAt.T18:=by kernel_rfl
theorem impl_ForestAt.bits18:waitsOk impl_ForestAt.T18.2 impl_ForestAt.B18=true:=by kernel_rfl
theorem impl_ForestAt.calls (k:Nat) (c:Int) (q:Option Addr) (s:Nat) (a:List (S72)) (a7:Int) (c3:Int) (c4:List (List Int)) (c5:Bool) (w:World) (hr0_1:Kd.C k72 w q a.length a) (hc0_1:a.length≤s) (h:impl_ForestAt.f k c a a7=some (c3,c4,c5)):
  Calls Try.prog 50 #[.agg #[.int .i64 c,.slice q a.length s],.int .i64 a7] w fun e w' =>∃ c6:Value,e= .returned (.tuple #[.agg #[.int .i64 c3,c6],.bool c5])∧Kd.S (Kd.slice 3 (Kd.int .i64)) 51 w' w.heap.size (fun _=>True) c6 c4∧Below w.heap.size w w' :=by
 have hu29:=Try.underlying29;have hu39:=Try.underlying39;have hu72:=Try.underlying72;have hu43:=Try.underlying43
 have z:=am_ hr0_1
 have B:=am_ hc0_1
 clear hr0_1 hc0_1
 have HB:=am_ (Below.refl w.heap.size w)
 have H:((impl_in.f c 1 12).bind fun g6=>(if g6=true then (impl_ForestAt.l0 k a7 a (a.length:Int) 0 c a) else (some (0,([]:List (List Int)),false))))=some (c3,c4,c5):=h
 clear h
 obtain⟨g6,g7,H⟩:=bs_ H
 refine id_ H ?_ ?_<;>clear H<;>rintro rfl H
 ·simp only[Option.some.injEq,Prod.mk.injEq]at H
  obtain⟨rfl,rfl,rfl⟩:=H
  go_enter Try.func50,Try.ntmps50
  go_wp2_with (first|((with_reducible refine gd_ 2 ?_);refine by_ 2 (cs:= #[.int .i64 c,.slice q a.length s]) (t:=29) ?_;intro a4 hg i5 l hb;have i6:=gw_ hg;replace HB:=hs_ hb;clear hb hg)|((with_reducible refine gd_ 4 ?_);refine by_ 4 (cs:= #[.int .i64 0,.slice none 0 0]) (t:=39) ?_;intro T hg A m hb;have i7:=gw_ hg;obtain⟨b7,e3⟩:=qn_ l hg;replace l:=qbl_ l hb;replace HB:=hs_ hb;clear hb hg;obtain⟨t3,t4⟩:=nn_ b7;obtain⟨t5,t6,t7,t8⟩:=bc2_ l)|((with_reducible refine gc_ 66 ?_);refine gl_ (some 14) Try.func66 #[.int .i64 c,.int .i64 1,.int .i64 12] ?_;(with_reducible refine(impl_in.calls c 1 12 false _ g7.out).mono ?_);rintro e w' ⟨rfl,⟨nd,rfl⟩⟩;refine⟨_,rfl,?_⟩;((rw[drewN_self A];generalize hq_:World.drewN A _=A;have c7:Aside0 (A.heap[a4]? =some (.cells #[.int .i64 c,.slice q a.length s] 29 (0,0))):=⟨by rw[←hq_];exact(qk_ l)⟩;have c8:Aside0 (A.heap[T]? =some (.cells #[.int .i64 0,.slice none 0 0] 39 (0,0))):=⟨by rw[←hq_];exact(qk_ m)⟩;have c9:Aside0 (Below w.heap.size w A):=⟨by rw[←hq_];exact qB_⟩;clear l m HB hq_;have l:=c7;have m:=c8;have HB:=c9;clear c7 c8 c9;have hcr_gb697_0:A.cell? ⟨a4,0,none⟩=some (.int .i64 c):=bl_ l 0;have hfr_gb697_0:=blk_frozen l.out 0;have hcr_gb697_1:A.cell? ⟨a4,1,none⟩=some (.slice q a.length s):=bl_ l 1;have hfr_gb697_1:=blk_frozen l.out 1;have hcr_gb698_0:A.cell? ⟨T,0,none⟩=some (.int .i64 0):=bl_ m 0;have hfr_gb698_0:=blk_frozen m.out 0;have hcr_gb698_1:A.cell? ⟨T,1,none⟩=some (.slice none 0 0):=bl_ m 1;have hfr_gb698_1:=blk_frozen m.out 1));obtain⟨t9,w2,w3,w4⟩:=bc2_ m))
  refine bodyPost_ret (results_ct rfl _ _ T 39 #[.int .i64 0,.slice none 0 0] (0,0) _ rfl (qp_ m) Try.underlying39 rfl (by kernel_rfl)) rfl ?_
  exact⟨_,qr_,by first|exact Kd.S_nil _ _ _ _ _|exact Kd.N_nil _ _ _ _ _|exact Kd.V_nil _ _ _ _ _|exact Kd.Q_nil _ _ _ _ _|exact Kd.R_nil _ _ _ _ _,qB_⟩
 have H' :=am_ H;clear H
 go_enter Try.func50,Try.ntmps50
 go_wp2_with (first|((with_reducible refine gd_ 2 ?_);refine by_ 2 (cs:= #[.int .i64 c,.slice q a.length s]) (t:=29) ?_;intro a4 hg w5 l hb;have i6:=gw_ hg;replace HB:=hs_ hb;clear hb hg)|((with_reducible refine gd_ 4 ?_);refine by_ 4 (cs:= #[.int .i64 0,.slice none 0 0]) (t:=39) ?_;intro T hg w6 m hb;have i7:=gw_ hg;obtain⟨b7,e3⟩:=qn_ l hg;replace l:=qbl_ l hb;replace HB:=hs_ hb;clear hb hg;obtain⟨v0,v1⟩:=nn_ b7;obtain⟨g8,g9,h0,h1⟩:=bc2_ l)|((with_reducible refine gc_ 66 ?_);refine gl_ (some 14) Try.func66 #[.int .i64 c,.int .i64 1,.int .i64 12] ?_;(with_reducible refine(impl_in.calls c 1 12 true _ g7.out).mono ?_);rintro e w' ⟨rfl,⟨nd,rfl⟩⟩;refine⟨_,rfl,?_⟩))
 go_loopg [20] k (fun kq v20 w' =>∃ (d:Int) (d9:Int),v20= .int .i64 d∧Aside0 (impl_ForestAt.l0 kq a7 a (a.length:Int) d c a=some (c3,c4,c5))∧Aside0 (kq≤k)∧Aside0 (w'.heap[a4]? =some (.cells #[.int .i64 c,(.slice q a.length s)] 29 (0,0)))∧Aside0 (w'.heap[T]? =some (.cells #[.int .i64 d9,(.slice none 0 0)] 39 (0,0)))∧Aside0 (Below w.heap.size w w'))
 case atStart=>exact⟨(0),(0),qe_,H',⟨Nat.le_refl _⟩,⟨qk_ l⟩,⟨qk_ m⟩,⟨qB_⟩⟩
 case round=>
  clear H'
  (try clear h2);clear g8 g9 h0 h1
  obtain⟨d,d9,rfl,HA,HK1,l,m,HB⟩:=hrel
  cases gk with
  |zero=>exact absurd HA.out (by simp [impl_ForestAt.l0])
  |succ a5=>
   have H:=HA.out;clear HA
   simp only[impl_ForestAt.l0]at H
   refine ic_ H ?_ ?_<;>clear H<;>intro d0 H
   ·refine ig_ H ?_;clear H;intro a9 H
    refine ig_ H ?_;clear H;intro b0 H
    obtain⟨w7,d1,H⟩:=bs_ H
    refine ie_ H ?_ ?_<;>clear H<;>rintro rfl H
    ·have H' :=am_ H;clear H
     have M:=dt_ d
     have O:=du_ d a.length
     obtain⟨b1,X,b8,b9,c0,c1⟩:=at_T72 z.out d (ot_ M) (ot_ O)
     cases X
     replace b8:=qx_ HB b8
     replace b9:=qx_ HB b9
     replace c0:=qx_ HB c0
     replace c1:=qx_ HB c1
     go_wp2_with (first|((with_reducible refine gd_ 7 ?_);refine by_ 7 (cs:= #[.int .i64 0,.int .i64 0,.int .i64 0,.bool false]) (t:=72) ?_;intro e4 hg j6 b2 hb;have j7:=gw_ hg;obtain⟨j8,e5⟩:=qn_ l hg;obtain⟨j9,e6⟩:=qn_ m hg;replace l:=qbl_ l hb;replace m:=qbl_ m hb;replace HB:=hs_ hb;clear hb hg;obtain⟨w8,w9⟩:=nn_ e5;obtain⟨x0,x1⟩:=nn_ e6;obtain⟨k0,k1,k2,k3,k4,k5,k6,k7⟩:=bc4_ b2;obtain⟨x2,x3⟩:=nn_ b7;obtain⟨k8,k9,l4,l5⟩:=bc2_ l)|((with_reducible refine gc_ 76 ?_);refine gl_ (some 31) Try.func76 #[.int .i64 c,.agg #[.int .i64 ((rd_T72 a d).f0),.int .i64 ((rd_T72 a d).f1)]] ?_;(with_reducible refine(impl_EdgeOk.calls c ((rd_T72 a d).f0) ((rd_T72 a d).f1) true _ d1.out).mono ?_);rintro e l6 ⟨rfl,hb⟩;refine⟨_,rfl,?_⟩;replace l:=qbl_ l hb;replace m:=qbl_ m hb;replace b2:=am_ (blk_below (g:=e4) (o:= .cells #[.int .i64 ((rd_T72 a d).f0),.int .i64 ((rd_T72 a d).f1),.int .i64 ((rd_T72 a d).f2),.bool ((rd_T72 a d).f3)] 72 (0,0)) (qp_ b2) hb);replace HB:=hs_ hb;clear hb))
     go_roundg a5
     case measure=>have:=HK1.out;omega
     case rel=>exact⟨(wrap64 (d + 1)),(d9),qe_,H',⟨by have:=HK1.out;omega⟩,⟨qk_ l⟩,⟨qk_ m⟩,⟨qB_⟩⟩
    simp only[Option.some.injEq,Prod.mk.injEq]at H
    obtain⟨rfl,rfl,rfl⟩:=H
    have M:=dt_ d
    have O:=du_ d a.length
    obtain⟨b1,X,b8,b9,c0,c1⟩:=at_T72 z.out d (ot_ M) (ot_ O)
    cases X
    replace b8:=qx_ HB b8
    replace b9:=qx_ HB b9
    replace c0:=qx_ HB c0
    replace c1:=qx_ HB c1
    go_wp2_with (first|((with_reducible refine gd_ 7 ?_);refine by_ 7 (cs:= #[.int .i64 0,.int .i64 0,.int .i64 0,.bool false]) (t:=72) ?_;intro e4 hg l7 b2 hb;have j7:=gw_ hg;obtain⟨j8,e5⟩:=qn_ l hg;obtain⟨j9,e6⟩:=qn_ m hg;replace l:=qbl_ l hb;replace m:=qbl_ m hb;replace HB:=hs_ hb;clear hb hg;obtain⟨x4,x5⟩:=nn_ e5;obtain⟨x6,x7⟩:=nn_ e6;obtain⟨l8,l9,m0,m1,m2,m3,m4,m5⟩:=bc4_ b2;obtain⟨x8,x9⟩:=nn_ b7;obtain⟨m6,m7,m8,m9⟩:=bc2_ l)|((with_reducible refine gc_ 76 ?_);refine gl_ (some 31) Try.func76 #[.int .i64 c,.agg #[.int .i64 ((rd_T72 a d).f0),.int .i64 ((rd_T72 a d).f1)]] ?_;(with_reducible refine(impl_EdgeOk.calls c ((rd_T72 a d).f0) ((rd_T72 a d).f1) false _ d1.out).mono ?_);rintro e n0 ⟨rfl,hb⟩;refine⟨_,rfl,?_⟩;replace l:=qbl_ l hb;replace m:=qbl_ m hb;replace b2:=am_ (blk_below (g:=e4) (o:= .cells #[.int .i64 ((rd_T72 a d).f0),.int .i64 ((rd_T72 a d).f1),.int .i64 ((rd_T72 a d).f2),.bool ((rd_T72 a d).f3)] 72 (0,0)) (qp_ b2) hb);replace HB:=hs_ hb;clear hb;obtain⟨n1,n2,n3,n4⟩:=bc2_ m))
    refine bodyPost_ret (results_ct rfl _ _ T 39 #[.int .i64 0,.slice none 0 0] (0,0) _ rfl (qp_ m) Try.underlying39 rfl (by kernel_rfl)) rfl ?_
    exact⟨_,qr_,by first|exact Kd.S_nil _ _ _ _ _|exact Kd.N_nil _ _ _ _ _|exact Kd.V_nil _ _ _ _ _|exact Kd.Q_nil _ _ _ _ _|exact Kd.R_nil _ _ _ _ _,qB_⟩
   obtain⟨c2,d2,H⟩:=bs_ H
   obtain⟨y0,d3,H⟩:=bs_ H
   refine ie_ H ?_ ?_<;>clear H<;>rintro rfl H
   ·simp only[Option.some.injEq,Prod.mk.injEq]at H
    obtain⟨rfl,rfl,rfl⟩:=H
    try go_wp2
    replace l:=bd_ l;replace m:=bd_ m;replace HB:=hd_ HB
    refine start_ (n:=5) (S:=fun w' =>w'.cell? ⟨a4,0,none⟩=some (.int .i64 c)∧w'.cell? ⟨a4,1,none⟩=some (.slice q a.length s)) (ds:=[]) (bm 5 0) (by kernel_rfl) rfl (by kernel_rfl) ⟨bl_ l 0,bl_ l 1⟩ (fun hHeld=> ?_)
    generalize wr.drew=n5 at l m HB hHeld ⊢
    refine pure_ (i:=0) (N:=some 35) (v:= ?_) (a' := ?_) (bm 5 1) rfl rfl (by kernel_rfl) (fun _ _ _ h=>h) (Or.inl ⟨by rfl,?_⟩) ?_ ?_
    rotate_left
    ·intro w'
     go_simp
     with_reducible rfl
    rotate_left
    ·simp only[Act.put,sA_,sB_,sC_,i64_w,i32_w]
     rfl
    refine take_ (i:=1) (N:=some 36) (v:= ?_) (a' := ?_) (bm 5 3) rfl rfl (by kernel_rfl) (fun _ _ _ h=>h) (Or.inl ⟨by rfl,?_⟩) hHeld ?_ ?_
    rotate_left
    ·rintro w' ⟨e7,e8⟩
     go_simp
     with_reducible rfl
    rotate_left
    ·simp only[Act.put,sA_,sB_,sC_,i64_w,i32_w]
     rfl
    refine take_ (i:=2) (N:=some 37) (v:= ?_) (a' := ?_) (bm 5 7) rfl rfl (by kernel_rfl) (fun _ _ _ h=>h) (Or.inl ⟨by rfl,?_⟩) hHeld ?_ ?_
    rotate_left
    ·rintro w' ⟨e7,e8⟩
     go_simp
     with_reducible rfl
    rotate_left
    ·simp only[Act.put,sA_,sB_,sC_,i64_w,i32_w]
     rfl
    refine one_ (i:=3) (N:=some 38) (bm 5 15) rfl rfl (by kernel_rfl) (by decide) (fun K hK=> ?_)
    refine gs_ Try.func65 #[.agg #[.int .i64 c,.slice q a.length s]] ?_
    with_reducible refine(impl_treeEdges.calls a5 c _ _ a c2 _ ?side1 ?side2 d2.out).mono ?_
    (case side1=>exact qC_ z HB)
    (case side2=>exact B.out)
    rintro e n6 ⟨n7,rfl,ho0,hb⟩
    refine⟨_,rfl,?_⟩
    have I:=am_ (Kd.R_lower ho0 (below_size qB_));replace l:=qbl_ l hb;replace m:=qbl_ m hb;replace HB:=hs_ hb;clear hb ho0
    obtain⟨n8,n9,h3⟩:=Kd.R_slice I.out
    (first|subst h3|(injection h3 with u D x;have E:=u.symm;have F:=x.symm;clear u D x;subst E;subst F))
    refine hK.out _ _ ⟨bl_ l 0,bl_ l 1⟩ (fun hHeld=> ?_)
    clear hK K
    refine nm_ 38 ?_
    refine one_ (i:=4) (N:=some 39) (bm 5 31) rfl rfl (by kernel_rfl) (by decide) (fun K hK=> ?_)
    refine gs_ Try.func64 #[.int .i64 c,.slice n8 c2.length n9] ?_
    with_reducible refine(impl_rings.calls a5 c _ _ c2 true _ ?side1 ?side2 d3.out).mono ?_
    (case side1=>exact qD_ (Kd.R_reads' I.out).2.2)
    (case side2=>exact(Kd.R_reads' I.out).2.1)
    rintro e o0 ⟨rfl,hb⟩
    refine⟨_,rfl,?_⟩
    replace I:=kb_ I hb;replace l:=qbl_ l hb;replace m:=qbl_ m hb;replace HB:=hs_ hb;clear hb
    refine hK.out _ _ ⟨bl_ l 0,bl_ l 1⟩ (fun hHeld=> ?_)
    clear hK K
    refine nm_ 39 ?_
    refine done_ (by kernel_rfl) ?_
    obtain⟨y1,y2⟩:=nn_ e3
    obtain⟨o1,o2,o3,o4⟩:=bc2_ m
    try go_wp2
    refine bodyPost_ret (results_ct rfl _ _ T 39 #[.int .i64 0,.slice none 0 0] (0,0) _ rfl (qp_ m) Try.underlying39 rfl (by kernel_rfl)) rfl ?_
    exact⟨_,qr_,by first|exact Kd.S_nil _ _ _ _ _|exact Kd.N_nil _ _ _ _ _|exact Kd.V_nil _ _ _ _ _|exact Kd.Q_nil _ _ _ _ _|exact Kd.R_nil _ _ _ _ _,qB_⟩
   obtain⟨U,e9,H⟩:=bs_ H
   obtain⟨d4,f4,H⟩:=bs_ H
   have H' :=am_ H;clear H
   try go_wp2
   replace l:=bd_ l;replace m:=bd_ m;replace HB:=hd_ HB
   refine start_ (n:=5) (S:=fun w' =>w'.cell? ⟨a4,0,none⟩=some (.int .i64 c)∧w'.cell? ⟨a4,1,none⟩=some (.slice q a.length s)) (ds:=[]) (bm 5 0) (by kernel_rfl) rfl (by kernel_rfl) ⟨bl_ l 0,bl_ l 1⟩ (fun hHeld=> ?_)
   generalize wr.drew=o5 at l m HB hHeld ⊢
   refine pure_ (i:=0) (N:=some 35) (v:= ?_) (a' := ?_) (bm 5 1) rfl rfl (by kernel_rfl) (fun _ _ _ h=>h) (Or.inl ⟨by rfl,?_⟩) ?_ ?_
   rotate_left
   ·intro w'
    go_simp
    with_reducible rfl
   rotate_left
   ·simp only[Act.put,sA_,sB_,sC_,i64_w,i32_w]
    rfl
   refine take_ (i:=1) (N:=some 36) (v:= ?_) (a' := ?_) (bm 5 3) rfl rfl (by kernel_rfl) (fun _ _ _ h=>h) (Or.inl ⟨by rfl,?_⟩) hHeld ?_ ?_
   rotate_left
   ·rintro w' ⟨e7,e8⟩
    go_simp
    with_reducible rfl
   rotate_left
   ·simp only[Act.put,sA_,sB_,sC_,i64_w,i32_w]
    rfl
   refine take_ (i:=2) (N:=some 37) (v:= ?_) (a' := ?_) (bm 5 7) rfl rfl (by kernel_rfl) (fun _ _ _ h=>h) (Or.inl ⟨by rfl,?_⟩) hHeld ?_ ?_
   rotate_left
   ·rintro w' ⟨e7,e8⟩
    go_simp
    with_reducible rfl
   rotate_left
   ·simp only[Act.put,sA_,sB_,sC_,i64_w,i32_w]
    rfl
   refine one_ (i:=3) (N:=some 38) (bm 5 15) rfl rfl (by kernel_rfl) (by decide) (fun K hK=> ?_)
   refine gs_ Try.func65 #[.agg #[.int .i64 c,.slice q a.length s]] ?_
   with_reducible refine(impl_treeEdges.calls a5 c _ _ a c2 _ ?side1 ?side2 d2.out).mono ?_
   (case side1=>exact qC_ z HB)
   (case side2=>exact B.out)
   rintro e o6 ⟨n7,rfl,ho0,hb⟩
   refine⟨_,rfl,?_⟩
   have I:=am_ (Kd.R_lower ho0 (below_size qB_));replace l:=qbl_ l hb;replace m:=qbl_ m hb;replace HB:=hs_ hb;clear hb ho0
   obtain⟨o7,o8,h4⟩:=Kd.R_slice I.out
   (first|subst h4|(injection h4 with u D x;have E:=u.symm;have F:=x.symm;clear u D x;subst E;subst F))
   refine hK.out _ _ ⟨bl_ l 0,bl_ l 1⟩ (fun hHeld=> ?_)
   clear hK K
   refine nm_ 38 ?_
   refine one_ (i:=4) (N:=some 39) (bm 5 31) rfl rfl (by kernel_rfl) (by decide) (fun K hK=> ?_)
   refine gs_ Try.func64 #[.int .i64 c,.slice o7 c2.length o8] ?_
   with_reducible refine(impl_rings.calls a5 c _ _ c2 false _ ?side1 ?side2 d3.out).mono ?_
   (case side1=>exact qD_ (Kd.R_reads' I.out).2.2)
   (case side2=>exact(Kd.R_reads' I.out).2.1)
   rintro e o9 ⟨rfl,hb⟩
   refine⟨_,rfl,?_⟩
   replace I:=kb_ I hb;replace l:=qbl_ l hb;replace m:=qbl_ m hb;replace HB:=hs_ hb;clear hb
   refine hK.out _ _ ⟨bl_ l 0,bl_ l 1⟩ (fun hHeld=> ?_)
   clear hK K
   refine nm_ 39 ?_
   refine done_ (by kernel_rfl) ?_
   obtain⟨y3,y4⟩:=nn_ b7
   obtain⟨p0,j0,j1,j2⟩:=bc2_ l
   try go_wp2_with (first|((with_reducible refine gc_ 67 ?_);refine gl_ (some 43) Try.func67 #[.agg #[.int .i64 c,.slice q a.length s],.int .i64 a7] ?_;(with_reducible refine(impl_labelsAt.calls a5 c _ _ a a7 U _ ?_ ?_ e9.out).mono ?_);exact qC_ z HB;exact B.out;rintro e p1 ⟨h5,rfl,ho0,hb⟩;refine⟨_,rfl,?_⟩;have d5:=am_ (Kd.R_lower ho0 (below_size qB_));replace I:=kb_ I hb;replace l:=qbl_ l hb;replace m:=qbl_ m hb;replace HB:=hs_ hb;clear hb ho0;obtain⟨p2,j4,p3,p4⟩:=bc2_ l)|((with_reducible refine gc_ 102 ?_);refine gl_ (some 46) Try.func102 #[.agg #[.int .i64 c,.slice q a.length s],.int .i64 a7] ?_;(with_reducible refine(impl_forest.calls a5 c _ _ a a7 d4 _ ?_ ?_ f4.out).mono ?_);exact qC_ z HB;exact B.out;rintro e p5 ⟨p6,rfl,ho0,hb⟩;refine⟨_,rfl,?_⟩;have f5:=am_ (Kd.R_lower (Kd.R_new' ho0 (Kd.R_lt (qR_ I))) (below_size qB_));replace I:=ke_ I ho0 hb;replace d5:=kb_ d5 hb;replace l:=qbl_ l hb;replace m:=qbl_ m hb;replace HB:=hs_ hb;clear hb ho0;obtain⟨p7,p8,p9,q0⟩:=bc2_ l)|((with_reducible refine gd_ 10 ?_);refine by_ 10 (cs:= #[.int .i64 0,.slice none 0 0]) (t:=39) ?_;intro Y hg q1 y hb;have y5:=gw_ hg;obtain⟨q2,f6⟩:=qn_ l hg;obtain⟨q3,f7⟩:=qn_ m hg;replace I:=kb_ I hb;replace d5:=kb_ d5 hb;replace f5:=kb_ f5 hb;replace l:=qbl_ l hb;replace m:=qbl_ m hb;replace HB:=hs_ hb;clear hb hg;obtain⟨u0,u1⟩:=nn_ f6;obtain⟨u2,u3⟩:=nn_ f7;obtain⟨q4,q5,q6,q7⟩:=bc2_ y;obtain⟨q8,q9,r0,l2⟩:=bc2_ l))
   go_loopg [52] a5 (fun kq v52 w' =>∃ (j:Int) (a8:List (List Int)) (a6:Value),v52= .int .i64 j∧Aside0 (impl_ForestAt.l1 kq U d4 c j c a8=some (c3,c4,c5))∧Aside0 (kq≤a5)∧Aside0 (Kd.R (Kd.int .i64) 3 w' w.heap.size (fun _=>True) h5 U)∧Aside0 (Kd.R k43 43 w' w.heap.size (fun _=>True) p6 d4)∧Aside0 (Kd.S (Kd.slice 3 (Kd.int .i64)) 51 w' w.heap.size (fun k_=>some k_≠(h5:Value).ownBlock) a6 a8)∧Aside0 (w'.heap[a4]? =some (.cells #[.int .i64 c,(.slice q a.length s)] 29 (0,0)))∧Aside0 (w'.heap[T]? =some (.cells #[.int .i64 d9,(.slice none 0 0)] 39 (0,0)))∧Aside0 (w'.heap[Y]? =some (.cells #[.int .i64 c,a6] 39 (0,0)))∧Aside0 (Below w.heap.size w w'))
   case atStart=>exact⟨(0),(([]:List (List Int))),(.slice none 0 0),qe_,H',⟨Nat.le_refl _⟩,⟨by(with_reducible repeat(first|apply Kd.R_alloc|apply Kd.R_drewN|apply Kd.R_drew));exact Kd.R_mono (Kd.R_far (p:=⟨Y,1,none⟩) (Kd.R_far (p:=⟨Y,0,none⟩) (Kd.R_types d5.out y.out (by decide)) (fun _ hk=>hk.2) (.int .i64 c)) (fun _ hk=>hk.2) (.slice none 0 0)) (fun _ hk=>trivial)⟩,⟨by(with_reducible repeat(first|apply Kd.R_alloc|apply Kd.R_drewN|apply Kd.R_drew));exact Kd.R_mono (Kd.R_far (p:=⟨Y,1,none⟩) (Kd.R_far (p:=⟨Y,0,none⟩) (Kd.R_types f5.out y.out (by decide)) (fun _ hk=>hk.2) (.int .i64 c)) (fun _ hk=>hk.2) (.slice none 0 0)) (fun _ hk=>trivial)⟩,⟨by first|exact Kd.S_nil _ _ _ _ _|exact Kd.N_nil _ _ _ _ _|exact Kd.V_nil _ _ _ _ _|exact Kd.Q_nil _ _ _ _ _|exact Kd.R_nil _ _ _ _ _⟩,⟨qf_ l⟩,⟨qf_ m⟩,⟨qp_ y⟩,⟨qB_⟩⟩
   case round=>
    clear H' d0 p0 j0 p2 j4 p7 p8 q4 q5 q8 q9 j1 j2 p3 p4 p9 q0 q6 q7 r0 l2
    obtain⟨j,a8,a6,rfl,HA,HK2,L,V,J,l,m,y,HB⟩:=hrel
    cases gk with
    |zero=>exact absurd HA.out (by simp [impl_ForestAt.l1])
    |succ f8=>
     have H:=HA.out;clear HA
     simp only[impl_ForestAt.l1]at H
     refine ib_ H ?_ ?_<;>clear H<;>intro f9 H
     ·simp only[Option.some.injEq,Prod.mk.injEq]at H
      obtain⟨rfl,rfl,rfl⟩:=H
      obtain⟨u4,u5⟩:=nn_ f6;obtain⟨u6,u7⟩:=nn_ f7
      obtain⟨z3,z4,z5,z6⟩:=bc2_ y
      obtain⟨u8,u9⟩:=nn_ e3
      obtain⟨z7,z8,z9,A0⟩:=bc2_ m
      obtain⟨h6,h7,s6⟩:=Kd.S_slice J.out
      subst s6
      go_wp2
      refine bodyPost_ret (results_ct rfl _ _ T 39 #[.int .i64 c,.slice h6 a8.length h7] (0,0) _ rfl (qp_ m) Try.underlying39 rfl (by kernel_rfl)) rfl ?_
      exact⟨_,qr_,by(with_reducible repeat(first|apply Kd.S_alloc|apply Kd.S_drewN|apply Kd.S_drew));exact Kd.S_mono (Kd.S_far (p:=⟨T,1,none⟩) (Kd.S_far (p:=⟨T,0,none⟩) (Kd.S_types J.out m.out (by decide)) (fun _ hk=>hk.2) (.int .i64 c)) (fun _ hk=>hk.2) (.slice h6 a8.length h7)) (fun _ hk=>trivial),qB_⟩
     refine ig_ H ?_;clear H;intro g0 H
     refine ig_ H ?_;clear H;intro g1 H
     refine jb_ H ?_ ?_<;>clear H<;>intro Z H
     ·have b3:((rd U j)==j)=false:=beq_eq_false_iff_ne.mpr Z
      have b4:((rd U j) != j)=true:=bne_iff_ne.mpr Z
      have H' :=am_ H;clear H
      obtain⟨v2,v3,s7⟩:=Kd.R_slice L.out
      subst s7
      have a0:=dt_ j
      have a1:=du_ j U.length
      obtain⟨G,a2,l3⟩:=Kd.at_int (Kd.R_reads' L.out).2.2 j (ot_ a0) (ot_ a1)
      cases a2
      go_wp2
      go_roundg f8
      case measure=>have:=HK1.out;have:=HK2.out;omega
      case rel=>exact⟨(wrap64 (j + 1)),(a8),(a6),qe_,H',⟨by have:=HK1.out;have:=HK2.out;omega⟩,⟨ra_ L⟩,⟨ra_ V⟩,⟨by(with_reducible repeat(first|apply Kd.S_alloc|apply Kd.S_drewN|apply Kd.S_drew));first|exact J.out|(have h_:=J.out;simp only[own_slice]at h_ ⊢;exact h_)⟩,⟨qk_ l⟩,⟨qk_ m⟩,⟨qk_ y⟩,⟨qB_⟩⟩
     have b3:((rd U j)==j)=true:=beq_iff_eq.mpr Z
     have b4:((rd U j) != j)=false:=bne_eq_false_iff_eq.mpr Z
     clear Z
     obtain⟨d6,g2,H⟩:=bs_ H
     refine jg_ H ?_;clear H;intro d7 H
     have b5:=am_ d7
     clear d7
     generalize a3:(a8++[d6])=d8 at H;replace H:=bh_ H;have b6:=am_ a3.symm;clear a3;have H' :=am_ H;clear H
     obtain⟨v4,g3,s8⟩:=Kd.R_slice L.out
     subst s8
     have a0:=dt_ j
     have a1:=du_ j U.length
     obtain⟨G,a2,l3⟩:=Kd.at_int (Kd.R_reads' L.out).2.2 j (ot_ a0) (ot_ a1)
     cases a2
     try go_wp2
     replace L:=rd_ L;replace V:=rd_ V;replace J:=am_ (Kd.S_drew J.out);replace l:=bd_ l;replace m:=bd_ m;replace y:=bd_ y;replace HB:=hd_ HB
     obtain⟨s9,t0,h8⟩:=Kd.R_slice V.out
     (first|subst h8|(injection h8 with u D x;have E:=u.symm;have F:=x.symm;clear u D x;subst E;subst F))
     refine start_ (n:=9) (S:=fun w' =>w'.cell? ⟨Y,0,none⟩=some (.int .i64 c)∧w'.cell? ⟨Y,1,none⟩=some (a6)) (ds:=[8]) (bm 9 0) (by kernel_rfl) rfl (by kernel_rfl) ⟨bl_ y 0,bl_ y 1⟩ (fun hHeld=> ?_);refine with_tabW impl_ForestAt.tab18 impl_ForestAt.bits18 (fun HT_ HW_=> ?_)
     generalize wr.drew=t1 at L V J l m y HB hHeld ⊢
     refine pz_ 0 61 9 1 ?_;refine pz_ 2 63 9 5 ?_;refine pz_ 3 64 9 13 ?_;refine tz2_ 1 62 9 15 ?_
     refine o1_ 4 (some 65) 9 31 (fun K hK=> ?_)
     refine gs_ Try.func103 #[.slice s9 d4.length t0,.int .i64 j,.int .i64 (-1)] ?_
     with_reducible refine(impl_walk.calls f8 _ _ d4 j (-1) d6 _ ?side1 ?side2 g2.out).mono ?_
     (case side1=>exact qD_ (Kd.R_reads' V.out).2.2)
     (case side2=>exact(Kd.R_reads' V.out).2.1)
     rintro e t2 ⟨v5,rfl,ho0,hb⟩
     refine⟨_,rfl,?_⟩
     have e0:=am_ (Kd.R_lower (Kd.R_new' ho0 (Kd.R_lt (qR_ L))) (below_size qB_));replace L:=ke_ L ho0 hb;replace V:=kb_ V hb;replace J:=am_ (Kd.S_elder' (qS_ J) (Kd.R_base ho0) hb);replace l:=qbl_ l hb;replace m:=qbl_ m hb;replace y:=qbl_ y hb;replace HB:=hs_ hb;clear hb ho0
     obtain⟨h9,i0,i1⟩:=Kd.R_slice e0.out
     (first|subst i1|(injection i1 with u D x;have E:=u.symm;have F:=x.symm;clear u D x;subst E;subst F))
     refine hK.out _ _ ⟨bl_ y 0,bl_ y 1⟩ (fun hHeld=> ?_)
     clear hK K
     refine nm_ 65 ?_
     refine o1_ 5 (some 66) 9 63 (fun K hK=> ?_)
     refine value_ (w1:= ?_) (v:= ?_) (by rfl) rfl ?_ ?_
     rotate_left 2
     ·go_simp
      constructor
      ·rfl
      rfl
     refine hK.out _ _ ⟨(blk_cell (blk_alloc y.out _) 0).trans rfl,(blk_cell (blk_alloc y.out _) 1).trans rfl⟩ (fun hHeld=> ?_)
     clear hK K
     refine nm_ 66 ?_
     refine o1_ 6 (some 67) 9 127 (fun K hK=> ?_)
     refine Kd.S_append_step (Kd.slice 3 (Kd.int .i64)) (w0:=w) w.heap.size (by rfl) (.tmp 62) (.tmp 66) 33 51 (.slice none 0 0) 24 rfl Try.underlying33 info51 rfl (by decide) (by omega) a6 a8 d6 [.slice h9 d6.length i0] (fun k_=>some k_≠(.slice (some G) U.length g3:Value).ownBlock) (fun k_=>some k_=(.slice h9 d6.length i0:Value).ownBlock) rfl rfl ?aP (fun k_ hk_=>((Kd.R_mono (ok' :=fun k_=>((fun k_=>some k_≠(.slice (some G) U.length g3:Value).ownBlock)) k_∧some k_≠(a6:Value).ownBlock) (Kd.R_apart' (e0.out) (Kd.S_typed J.out) (by decide)) (fun k_ hk=>⟨hk.1.2,hk.2⟩))).1 k_ hk_.symm) ?aF ?aO ?aB ?aS ?aL ?_
     (case aP=>exact Kd.M_row (Kd.R_mono (Kd.R_tight rfl (Kd.R_mono (ok' :=fun k_=>((fun k_=>some k_≠(.slice (some G) U.length g3:Value).ownBlock)) k_∧some k_≠(a6:Value).ownBlock) (Kd.R_apart' (e0.out) (Kd.S_typed J.out) (by decide)) (fun k_ hk=>⟨hk.1.2,hk.2⟩))) (fun _ h_=>h_)))
     (case aB=>exact qB_)
     (case aF=>exact(fun k_ hk=>Kd.fresh' (Kd.R_lt (qR_ L)) k_ hk))
     (case aO=>exact(by(with_reducible repeat(first|apply Kd.S_alloc|apply Kd.S_drewN|apply Kd.S_drew));exact Kd.S_mono J.out (fun k_ hk=>⟨hk.1,fun e_=>hk.2 e_⟩)))
     (case aS=>exact(below_size qB_))
     (case aL=>have:=b5.out;omega)
     intro v6 g4 ho hb hg hat
     rw[←b6.out]at ho
     have i2:=am_ (ho);replace L:=am_ (Kd.R_over' (qR_ L) (Kd.S_typed (qS_ J)) (by decide) hg);replace V:=am_ (Kd.R_over' (qR_ V) (Kd.S_typed (qS_ J)) (by decide) hg);replace l:=am_ (blk_grown (qk_ l) hg (Kd.S_ne J.out l.out (by decide)));replace m:=am_ (blk_grown (qk_ m) hg (Kd.S_ne J.out m.out (by decide)));replace y:=am_ (blk_grown (qk_ y) hg (Kd.S_ne J.out y.out (by decide)));replace HB:=am_ (hb);clear J e0 ho hb hg hat
     obtain⟨e1,e2,i3⟩:=Kd.S_slice i2.out
     (first|subst i3|(injection i3 with u D x;have E:=u.symm;have F:=x.symm;clear u D x;subst E;subst F))
     refine hK.out _ _ ⟨bl_ y 0,bl_ y 1⟩ (fun hHeld=> ?_)
     clear hK K
     refine nm_ 67 ?_
     refine pz_ 7 68 9 255 ?_
     refine last_ (i:=8) (N:=none) (bm 9 511) rfl rfl (one_of HT_.out (by kernel_rfl)) (by decide) (fun K hK=> ?_)
     have i4:g4.cell? ⟨Y,1,none⟩=some (a6):=bl_ y 1
     have g5:=blk_frozen y.out 1
     have A1:=q2.out;have A2:=q3.out;have A3:=f6.out;have A4:=f7.out
     refine skip_ (w1:= ?_) (by rfl) rfl ?_ ?_
     rotate_left
     ·go_simp
      rfl
     refine hK.out _ _ ?_
     clear hK K
     refine done_ (done_of HT_.out (by kernel_rfl)) ?_
     try go_wp2
     go_roundg f8
     case measure=>have:=HK1.out;have:=HK2.out;omega
     case rel=>exact⟨(wrap64 (j + 1)),(d8),(.slice e1 d8.length e2),qe_,H',⟨by have:=HK1.out;have:=HK2.out;omega⟩,⟨by(with_reducible repeat(first|apply Kd.R_alloc|apply Kd.R_drewN|apply Kd.R_drew));exact Kd.R_mono (Kd.R_far (p:=⟨Y,1,none⟩) (Kd.R_types L.out y.out (by decide)) (fun _ hk=>hk.2) (.slice e1 d8.length e2)) (fun _ hk=>trivial)⟩,⟨by(with_reducible repeat(first|apply Kd.R_alloc|apply Kd.R_drewN|apply Kd.R_drew));exact Kd.R_mono (Kd.R_far (p:=⟨Y,1,none⟩) (Kd.R_types V.out y.out (by decide)) (fun _ hk=>hk.2) (.slice e1 d8.length e2)) (fun _ hk=>trivial)⟩,⟨by(with_reducible repeat(first|apply Kd.S_alloc|apply Kd.S_drewN|apply Kd.S_drew));exact Kd.S_mono (Kd.S_far (p:=⟨Y,1,none⟩) (Kd.S_types i2.out y.out (by decide)) (fun _ hk=>hk.2) (.slice e1 d8.length e2)) (fun _ hk=>hk.1)⟩,⟨qf_ l⟩,⟨qf_ m⟩,⟨qp_ y⟩,⟨qB_⟩⟩
end Go.Proofs.Ytbkklafkoegdpaa.QFnLevels

import Derived.Test.YtbkklafkoegdpaaQFnTakesx17
namespace Go.Proofs.Ytbkklafkoegdpaa.QFnTakes
open Go.RowKit Go.Proofs.YtbkklafkoegdpaaW.PrintWords Go.Proofs.YtbkklafkoegdpaaW.PrintLast Go.Proofs.YtbkklafkoegdpaaW.PrintMore
set_option maxHeartbeats 8000000
set_option maxRecDepth 100000
set_option linter.unusedVariables false
set_option linter.unusedSimpArgs false
mutual
def spec_l05Put.l0:Nat→List (S43)→List (S43)→Int→Int→Int→Option ((List (S43)))
  |0,_,_,_,_,_=>none
  |k + 1,x0,x5,x6,x536000,x536001=>if x6<(x0.length:Int) then (if 0≤x6 then ((spec_l05Less.f ((rd_T43 x0 x6).f0) ((rd_T43 x0 x6).f1) x536000 x536001).bind fun t540=>(if t540=true then (if x5.length<8796093022208 then (spec_l05Put.l0 k x0 (x5++[(⟨(rd_T43 x0 x6).f0,(rd_T43 x0 x6).f1⟩:S43)]) (wrap64 (x6 + 1)) x536000 x536001) else (none)) else (spec_l05Put.l0 k x0 x5 (wrap64 (x6 + 1)) x536000 x536001))) else (none)) else (if x5.length<8796093022208 then (spec_l05Put.l1 k x0 (x5++[(⟨x536000,x536001⟩:S43)]) 0 x536000 x536001) else (none))
def spec_l05Put.l1:Nat→List (S43)→List (S43)→Int→Int→Int→Option ((List (S43)))
  |0,_,_,_,_,_=>none
  |k + 1,x0,x5,x7,x536000,x536001=>if x7<(x0.length:Int) then (if 0≤x7 then ((spec_l05Less.f x536000 x536001 ((rd_T43 x0 x7).f0) ((rd_T43 x0 x7).f1)).bind fun t549=>(if t549=true then (if x5.length<8796093022208 then (spec_l05Put.l1 k x0 (x5++[(⟨(rd_T43 x0 x7).f0,(rd_T43 x0 x7).f1⟩:S43)]) (wrap64 (x7 + 1)) x536000 x536001) else (none)) else (spec_l05Put.l1 k x0 x5 (wrap64 (x7 + 1)) x536000 x536001))) else (none)) else (some x5)
end
def spec_l05Put.f (k:Nat) (l0:List (S43)) (a1_0:Int) (a1_1:Int):Option ((List (S43))):=spec_l05Put.l0 k l0 (([]:List (S43))) 0 a1_0 a1_1
theorem spec_l05Put.calls (k:Nat) (c9:Option Addr) (d0:Nat) (l0:List (S43)) (d:Int) (g:Int) (r:List (S43)) (w:World) (hr0:Kd.C k43 w c9 l0.length l0) (hc0:l0.length≤d0) (h:spec_l05Put.f k l0 d g=some r):
  Calls Try.prog 127 #[.slice c9 l0.length d0,.agg #[.int .i64 d,.int .i64 g]] w fun e w' =>∃ b1:Value,e= .returned (b1)∧Kd.R k43 43 w' w.heap.size (fun _=>True) b1 r∧Below w.heap.size w w' :=by
 have hu43:=Try.underlying43
 have b0:=am_ hr0
 have g4:=am_ hc0
 clear hr0 hc0
 have HB:=am_ (Below.refl w.heap.size w)
 rw[spec_l05Put.f]at h;have H:=h;clear h
 generalize y:(([]:List (S43)))=d6 at H;replace H:=bh_ H;have z:=am_ y.symm;clear y;have H' :=am_ H;clear H
 go_enter Try.func127,Try.ntmps127
 go_wp2_with (first|((with_reducible refine gd_ 3 ?_);refine by_ 3 (cs:= #[.int .i64 d,.int .i64 g]) (t:=43) ?_;intro s hg g5 j hb;have g6:=gw_ hg;replace HB:=hs_ hb;clear hb hg)|((with_reducible refine gd_ 8 ?_);refine Kd.R_lit k43 _ 43 ?hg (N:=8) ?hd (xs:=([]:List (S43))) (inner:=[]) (ok:=fun _=>True) (okp:=fun _=>True) ?hr ?hp (fun _ hk=>hk) trivial (Below.refl _ _) (Nat.le_refl _) (by simp) ?_;(case hd=>rfl);(case hg=>rfl);(case hr=>first|(go_simp;done)|(go_simp;rfl));(case hp=>exact(Reps.none _ _));intro g7 g8 ho5 hb hg_ hnew_;clear hg_ hnew_;(first|rw[←z.out]at ho5|(simp only[Int.reduceToNat]at ho5;rw[←z.out]at ho5));have d7:=am_ (Kd.R_lower (Kd.R_newB ho5 (qk_ j)) (below_size qB_));replace j:=qbl_ j hb;replace HB:=hs_ hb;clear hb ho5))
 go_loopg [5,6] k (fun kq v5 v6 w' =>∃ (p:List (S43)) (a:Int),v6= .int .i64 a∧Aside0 (spec_l05Put.l0 kq l0 p a d g=some r)∧Aside0 (kq≤k)∧Aside0 (Kd.R k43 43 w' w.heap.size (fun k_=>k_≠s) v5 p)∧Aside0 (w'.heap[s]? =some (.cells #[.int .i64 d,.int .i64 g] 43 (0,0)))∧Aside0 (Below w.heap.size w w'))
 case atStart=>exact⟨(d6),(0),qe_,H',⟨Nat.le_refl _⟩,⟨by(with_reducible repeat(first|apply Kd.R_alloc|apply Kd.R_drewN|apply Kd.R_drew));exact Kd.R_mono d7.out (fun _ hk=>hk.2)⟩,⟨qk_ j⟩,⟨qB_⟩⟩
 case round=>
  clear H'
  (try clear d8)
  obtain⟨p,a,rfl,HA,HK1,o,j,HB⟩:=hrel
  cases gk with
  |zero=>exact absurd HA.out (by simp [spec_l05Put.l0])
  |succ c4=>
   have H:=HA.out;clear HA
   simp only[spec_l05Put.l0]at H
   refine ic_ H ?_ ?_<;>clear H<;>intro b2 H
   ·refine ig_ H ?_;clear H;intro b3 H
    obtain⟨g9,d2,H⟩:=bs_ H
    refine id_ H ?_ ?_<;>clear H<;>rintro rfl H
    ·have H' :=am_ H;clear H
     try go_wp2
     replace o:=rd_ o;replace j:=bd_ j;replace HB:=hd_ HB
     have u:=dt_ a
     have x:=du_ a l0.length
     obtain⟨l,A,J,L⟩:=at_T43 b0.out a (ot_ u) (ot_ x)
     have b4:=L;have b5:=J;cases A
     replace J:=qx_ HB J
     replace L:=qx_ HB L
     refine start_ (n:=6) (S:=fun w' =>w'.cell? ⟨s,0,none⟩=some (.int .i64 d)∧w'.cell? ⟨s,1,none⟩=some (.int .i64 g)∧w'.cell? (l.add ((a).toNat * 2))=some (.int .i64 ((rd_T43 l0 a).f0))∧w'.cell? ⟨(l.add ((a).toNat * 2)).block,(l.add ((a).toNat * 2)).off + 1,none⟩=some (.int .i64 ((rd_T43 l0 a).f1))) (ds:=[]) (bm 6 0) (by kernel_rfl) rfl (by kernel_rfl) ⟨bl_ j 0,bl_ j 1,((qx_ HB b5).trans rfl),((qx_ HB b4).trans rfl)⟩ (fun hHeld=> ?_)
     generalize wr.drew=d9 at o j HB J L hHeld ⊢
     refine pure_ (i:=0) (N:=some 15) (v:= ?_) (a' := ?_) (bm 6 1) rfl rfl (by kernel_rfl) (fun _ _ _ h=>h) (Or.inl ⟨by rfl,?_⟩) ?_ ?_
     rotate_left
     ·intro w'
      go_simp
      with_reducible rfl
     rotate_left
     ·simp only[Act.put,sA_,sB_,sC_,i64_w,i32_w]
      rfl
     refine pure_ (i:=1) (N:=some 16) (v:= ?_) (a' := ?_) (bm 6 3) rfl rfl (by kernel_rfl) (fun _ _ _ h=>h) (Or.inl ⟨by rfl,?_⟩) ?_ ?_
     rotate_left
     ·intro w'
      go_simp
      with_reducible rfl
     rotate_left
     ·simp only[Act.put,sA_,sB_,sC_,i64_w,i32_w]
      rfl
     refine pure_ (i:=2) (N:=some 17) (v:= ?_) (a' := ?_) (bm 6 7) rfl rfl (by kernel_rfl) (fun _ _ _ h=>h) (Or.inl ⟨by rfl,?_⟩) ?_ ?_
     rotate_left
     ·intro w'
      go_simp
      with_reducible rfl
     rotate_left
     ·simp only[Act.put,sA_,sB_,sC_,i64_w,i32_w]
      rfl
     refine take_ (i:=3) (N:=some 18) (v:= ?_) (a' := ?_) (bm 6 15) rfl rfl (by kernel_rfl) (fun _ _ _ h=>h) (Or.inl ⟨by rfl,?_⟩) hHeld ?_ ?_
     rotate_left
     ·rintro w' ⟨V,X,Y,Z⟩
      go_simp
      with_reducible rfl
     rotate_left
     ·simp only[Act.put,sA_,sB_,sC_,i64_w,i32_w]
      rfl
     refine take_ (i:=4) (N:=some 19) (v:= ?_) (a' := ?_) (bm 6 31) rfl rfl (by kernel_rfl) (fun _ _ _ h=>h) (Or.inl ⟨by rfl,?_⟩) hHeld ?_ ?_
     rotate_left
     ·rintro w' ⟨V,X,Y,Z⟩
      go_simp
      with_reducible rfl
     rotate_left
     ·simp only[Act.put,sA_,sB_,sC_,i64_w,i32_w]
      rfl
     refine one_ (i:=5) (N:=some 20) (bm 6 63) rfl rfl (by kernel_rfl) (by decide) (fun K hK=> ?_)
     refine gs_ Try.func135 #[.agg #[.int .i64 ((rd_T43 l0 a).f0),.int .i64 ((rd_T43 l0 a).f1)],.agg #[.int .i64 d,.int .i64 g]] ?_
     with_reducible refine(spec_l05Less.calls ((rd_T43 l0 a).f0) ((rd_T43 l0 a).f1) d g false _ d2.out).mono ?_
     rintro e e0 ⟨rfl,hb⟩
     refine⟨_,rfl,?_⟩
     replace o:=kb_ o hb;replace j:=qbl_ j hb;replace HB:=hs_ hb;clear hb
     refine hK.out _ _ ⟨bl_ j 0,bl_ j 1,((qx_ HB b5).trans rfl),((qx_ HB b4).trans rfl)⟩ (fun hHeld=> ?_)
     clear hK K
     refine nm_ 20 ?_
     refine done_ (by kernel_rfl) ?_
     try go_wp2
     go_roundg c4
     case measure=>have:=HK1.out;omega
     case rel=>exact⟨(p),(wrap64 (a + 1)),qe_,H',⟨by have:=HK1.out;omega⟩,⟨ra_ o⟩,⟨qk_ j⟩,⟨qB_⟩⟩
    refine jg_ H ?_;clear H;intro a0 H
    have a1:=am_ a0
    clear a0
    generalize B:(p++[(⟨(rd_T43 l0 a).f0,(rd_T43 l0 a).f1⟩:S43)])=e1 at H;replace H:=bh_ H;have a2:=am_ B.symm;clear B;have H' :=am_ H;clear H
    try go_wp2
    replace o:=rd_ o;replace j:=bd_ j;replace HB:=hd_ HB
    have u:=dt_ a
    have x:=du_ a l0.length
    obtain⟨l,A,J,L⟩:=at_T43 b0.out a (ot_ u) (ot_ x)
    have b4:=L;have b5:=J;cases A
    replace J:=qx_ HB J
    replace L:=qx_ HB L
    refine start_ (n:=6) (S:=fun w' =>w'.cell? ⟨s,0,none⟩=some (.int .i64 d)∧w'.cell? ⟨s,1,none⟩=some (.int .i64 g)∧w'.cell? (l.add ((a).toNat * 2))=some (.int .i64 ((rd_T43 l0 a).f0))∧w'.cell? ⟨(l.add ((a).toNat * 2)).block,(l.add ((a).toNat * 2)).off + 1,none⟩=some (.int .i64 ((rd_T43 l0 a).f1))) (ds:=[]) (bm 6 0) (by kernel_rfl) rfl (by kernel_rfl) ⟨bl_ j 0,bl_ j 1,((qx_ HB b5).trans rfl),((qx_ HB b4).trans rfl)⟩ (fun hHeld=> ?_)
    generalize wr.drew=e2 at o j HB J L hHeld ⊢
    refine pure_ (i:=0) (N:=some 15) (v:= ?_) (a' := ?_) (bm 6 1) rfl rfl (by kernel_rfl) (fun _ _ _ h=>h) (Or.inl ⟨by rfl,?_⟩) ?_ ?_
    rotate_left
    ·intro w'
     go_simp
     with_reducible rfl
    rotate_left
    ·simp only[Act.put,sA_,sB_,sC_,i64_w,i32_w]
     rfl
    refine pure_ (i:=1) (N:=some 16) (v:= ?_) (a' := ?_) (bm 6 3) rfl rfl (by kernel_rfl) (fun _ _ _ h=>h) (Or.inl ⟨by rfl,?_⟩) ?_ ?_
    rotate_left
    ·intro w'
     go_simp
     with_reducible rfl
    rotate_left
    ·simp only[Act.put,sA_,sB_,sC_,i64_w,i32_w]
     rfl
    refine pure_ (i:=2) (N:=some 17) (v:= ?_) (a' := ?_) (bm 6 7) rfl rfl (by kernel_rfl) (fun _ _ _ h=>h) (Or.inl ⟨by rfl,?_⟩) ?_ ?_
    rotate_left
    ·intro w'
     go_simp
     with_reducible rfl
    rotate_left
    ·simp only[Act.put,sA_,sB_,sC_,i64_w,i32_w]
     rfl
    refine take_ (i:=3) (N:=some 18) (v:= ?_) (a' := ?_) (bm 6 15) rfl rfl (by kernel_rfl) (fun _ _ _ h=>h) (Or.inl ⟨by rfl,?_⟩) hHeld ?_ ?_
    rotate_left
    ·rintro w' ⟨V,X,Y,Z⟩
     go_simp
     with_reducible rfl
    rotate_left
    ·simp only[Act.put,sA_,sB_,sC_,i64_w,i32_w]
     rfl
    refine take_ (i:=4) (N:=some 19) (v:= ?_) (a' := ?_) (bm 6 31) rfl rfl (by kernel_rfl) (fun _ _ _ h=>h) (Or.inl ⟨by rfl,?_⟩) hHeld ?_ ?_
    rotate_left
    ·rintro w' ⟨V,X,Y,Z⟩
     go_simp
     with_reducible rfl
    rotate_left
    ·simp only[Act.put,sA_,sB_,sC_,i64_w,i32_w]
     rfl
    refine one_ (i:=5) (N:=some 20) (bm 6 63) rfl rfl (by kernel_rfl) (by decide) (fun K hK=> ?_)
    refine gs_ Try.func135 #[.agg #[.int .i64 ((rd_T43 l0 a).f0),.int .i64 ((rd_T43 l0 a).f1)],.agg #[.int .i64 d,.int .i64 g]] ?_
    with_reducible refine(spec_l05Less.calls ((rd_T43 l0 a).f0) ((rd_T43 l0 a).f1) d g true _ d2.out).mono ?_
    rintro e e3 ⟨rfl,hb⟩
    refine⟨_,rfl,?_⟩
    replace o:=kb_ o hb;replace j:=qbl_ j hb;replace HB:=hs_ hb;clear hb
    refine hK.out _ _ ⟨bl_ j 0,bl_ j 1,((qx_ HB b5).trans rfl),((qx_ HB b4).trans rfl)⟩ (fun hHeld=> ?_)
    clear hK K
    refine nm_ 20 ?_
    refine done_ (by kernel_rfl) ?_
    have T:=dt_ a
    have U:=du_ a l0.length
    obtain⟨a3,b6,c5,c6⟩:=at_T43 b0.out a (ot_ T) (ot_ U)
    obtain rfl:l=a3:=(by injection b6)
    replace c5:=qx_ HB c5
    replace c6:=qx_ HB c6
    try go_wp2_with (first|((with_reducible refine gate_builtin (b:= .append) (xs:= #[.tmp 21,.tmp 26]) rfl ?_);at_builtin;refine Kd.R_append k43 (w0:=w) w.heap.size rfl (.tmp 21) (.tmp 26) 67 43 (.agg #[(.int .i64 0),(.int .i64 0)]) 16 rfl Try.underlying67 info43 rfl (by decide) (by omega) u5 p (⟨(rd_T43 l0 a).f0,(rd_T43 l0 a).f1⟩:S43) [.int .i64 ((rd_T43 l0 a).f0),.int .i64 ((rd_T43 l0 a).f1)] (fun k_=>k_≠s) (fun _=>False) rfl rfl ?aP (fun _ hk=>hk.elim) ?aF ?aO ?aB ?aS ?aL ?_;(case aP=>exact k43_mkM _ _ _ (⟨(rd_T43 l0 a).f0,(rd_T43 l0 a).f1⟩:S43));(case aB=>exact qB_);(case aF=>exact(fun k_ hk=>Kd.freshB (qk_ j) k_ hk));(case aO=>exact(qR_ o));(case aS=>exact(below_size qB_));(case aL=>have:=a1.out;omega);intro h0 e4 ho hb hg hat;rw[←a2.out]at ho;have e5:=am_ (ho);replace j:=am_ (blk_grown (qk_ j) hg (Kd.R_away o.out (fun _ hk=>hk)));replace HB:=am_ (hb);clear o ho hb hg hat))
    go_roundg c4
    case measure=>have:=HK1.out;omega
    case rel=>exact⟨(e1),(wrap64 (a + 1)),qe_,H',⟨by have:=HK1.out;omega⟩,⟨ra_ e5⟩,⟨qk_ j⟩,⟨qB_⟩⟩
   refine jg_ H ?_;clear H;intro a4 H
   have a5:=am_ a4
   clear a4
   generalize D:(p++[(⟨d,g⟩:S43)])=e6 at H;replace H:=bh_ H;have a6:=am_ D.symm;clear D;have H' :=am_ H;clear H
   obtain⟨e7,e8,e9,f2⟩:=bc2_ j
   go_wp2_with (first|((with_reducible refine gate_builtin (b:= .append) (xs:= #[.tmp 28,.tmp 30]) rfl ?_);at_builtin;refine Kd.R_append k43 (w0:=w) w.heap.size rfl (.tmp 28) (.tmp 30) 67 43 (.agg #[(.int .i64 0),(.int .i64 0)]) 16 rfl Try.underlying67 info43 rfl (by decide) (by omega) u5 p (⟨d,g⟩:S43) [.int .i64 d,.int .i64 g] (fun k_=>k_≠s) (fun _=>False) rfl rfl ?aP (fun _ hk=>hk.elim) ?aF ?aO ?aB ?aS ?aL ?_;(case aP=>exact k43_mkM _ _ _ (⟨d,g⟩:S43));(case aB=>exact qB_);(case aF=>exact(fun k_ hk=>Kd.freshB (qk_ j) k_ hk));(case aO=>exact(qR_ o));(case aS=>exact(below_size qB_));(case aL=>have:=a5.out;omega);intro h1 f3 ho hb hg hat;rw[←a6.out]at ho;have f4:=am_ (ho);replace j:=am_ (blk_grown (qk_ j) hg (Kd.R_away o.out (fun _ hk=>hk)));replace HB:=am_ (hb);clear o ho hb hg hat))
   go_loopg [5,7] c4 (fun kq v5 v7 w' =>∃ (q:List (S43)) (c:Int),v7= .int .i64 c∧Aside0 (spec_l05Put.l1 kq l0 q c d g=some r)∧Aside0 (kq≤c4)∧Aside0 (Kd.R k43 43 w' w.heap.size (fun k_=>k_≠s) v5 q)∧Aside0 (w'.heap[s]? =some (.cells #[.int .i64 d,.int .i64 g] 43 (0,0)))∧Aside0 (Below w.heap.size w w'))
   case atStart=>exact⟨(e6),(0),qe_,H',⟨Nat.le_refl _⟩,⟨ra_ f4⟩,⟨qk_ j⟩,⟨qB_⟩⟩
   case round=>
    clear H' b2 e7 e8 e9 f2
    obtain⟨q,c,rfl,HA,HK2,o,j,HB⟩:=hrel
    cases gk with
    |zero=>exact absurd HA.out (by simp [spec_l05Put.l1])
    |succ d3=>
     have H:=HA.out;clear HA
     simp only[spec_l05Put.l1]at H
     refine ib_ H ?_ ?_<;>clear H<;>intro c7 H
     ·obtain rfl:=oi_ H
      go_wp2
      go_ret
      exact⟨_,qr_,by(with_reducible repeat(first|apply Kd.R_alloc|apply Kd.R_drewN|apply Kd.R_drew));exact Kd.R_mono o.out (fun _ hk=>trivial),qB_⟩
     refine ig_ H ?_;clear H;intro c8 H
     obtain⟨h9,b7,H⟩:=bs_ H
     refine id_ H ?_ ?_<;>clear H<;>rintro rfl H
     ·have H' :=am_ H;clear H
      try go_wp2
      replace o:=rd_ o;replace j:=bd_ j;replace HB:=hd_ HB
      have E:=dt_ c
      have F:=du_ c l0.length
      obtain⟨m,G,M,O⟩:=at_T43 b0.out c (ot_ E) (ot_ F)
      have b8:=O;have b9:=M;cases G
      replace M:=qx_ HB M
      replace O:=qx_ HB O
      refine start_ (n:=6) (S:=fun w' =>w'.cell? ⟨s,0,none⟩=some (.int .i64 d)∧w'.cell? ⟨s,1,none⟩=some (.int .i64 g)∧w'.cell? (m.add ((c).toNat * 2))=some (.int .i64 ((rd_T43 l0 c).f0))∧w'.cell? ⟨(m.add ((c).toNat * 2)).block,(m.add ((c).toNat * 2)).off + 1,none⟩=some (.int .i64 ((rd_T43 l0 c).f1))) (ds:=[]) (bm 6 0) (by kernel_rfl) rfl (by kernel_rfl) ⟨bl_ j 0,bl_ j 1,((qx_ HB b9).trans rfl),((qx_ HB b8).trans rfl)⟩ (fun hHeld=> ?_)
      generalize wr.drew=f7 at o j HB M O hHeld ⊢
      refine pure_ (i:=1) (N:=some 39) (v:= ?_) (a' := ?_) (bm 6 2) rfl rfl (by kernel_rfl) (fun _ _ _ h=>h) (Or.inl ⟨by rfl,?_⟩) ?_ ?_
      rotate_left
      ·intro w'
       go_simp
       with_reducible rfl
      rotate_left
      ·simp only[Act.put,sA_,sB_,sC_,i64_w,i32_w]
       rfl
      refine pure_ (i:=2) (N:=some 40) (v:= ?_) (a' := ?_) (bm 6 6) rfl rfl (by kernel_rfl) (fun _ _ _ h=>h) (Or.inl ⟨by rfl,?_⟩) ?_ ?_
      rotate_left
      ·intro w'
       go_simp
       with_reducible rfl
      rotate_left
      ·simp only[Act.put,sA_,sB_,sC_,i64_w,i32_w]
       rfl
      refine pure_ (i:=3) (N:=some 41) (v:= ?_) (a' := ?_) (bm 6 14) rfl rfl (by kernel_rfl) (fun _ _ _ h=>h) (Or.inl ⟨by rfl,?_⟩) ?_ ?_
      rotate_left
      ·intro w'
       go_simp
       with_reducible rfl
      rotate_left
      ·simp only[Act.put,sA_,sB_,sC_,i64_w,i32_w]
       rfl
      refine take_ (i:=0) (N:=some 38) (v:= ?_) (a' := ?_) (bm 6 15) rfl rfl (by kernel_rfl) (fun _ _ _ h=>h) (Or.inl ⟨by rfl,?_⟩) hHeld ?_ ?_
      rotate_left
      ·rintro w' ⟨V,X,Y,Z⟩
       go_simp
       with_reducible rfl
      rotate_left
      ·simp only[Act.put,sA_,sB_,sC_,i64_w,i32_w]
       rfl
      refine take_ (i:=4) (N:=some 42) (v:= ?_) (a' := ?_) (bm 6 31) rfl rfl (by kernel_rfl) (fun _ _ _ h=>h) (Or.inl ⟨by rfl,?_⟩) hHeld ?_ ?_
      rotate_left
      ·rintro w' ⟨V,X,Y,Z⟩
       go_simp
       with_reducible rfl
      rotate_left
      ·simp only[Act.put,sA_,sB_,sC_,i64_w,i32_w]
       rfl
      refine one_ (i:=5) (N:=some 43) (bm 6 63) rfl rfl (by kernel_rfl) (by decide) (fun K hK=> ?_)
      refine gs_ Try.func135 #[.agg #[.int .i64 d,.int .i64 g],.agg #[.int .i64 ((rd_T43 l0 c).f0),.int .i64 ((rd_T43 l0 c).f1)]] ?_
      with_reducible refine(spec_l05Less.calls d g ((rd_T43 l0 c).f0) ((rd_T43 l0 c).f1) false _ b7.out).mono ?_
      rintro e f8 ⟨rfl,hb⟩
      refine⟨_,rfl,?_⟩
      replace o:=kb_ o hb;replace j:=qbl_ j hb;replace HB:=hs_ hb;clear hb
      refine hK.out _ _ ⟨bl_ j 0,bl_ j 1,((qx_ HB b9).trans rfl),((qx_ HB b8).trans rfl)⟩ (fun hHeld=> ?_)
      clear hK K
      refine nm_ 43 ?_
      refine done_ (by kernel_rfl) ?_
      try go_wp2
      go_roundg d3
      case measure=>have:=HK1.out;have:=HK2.out;omega
      case rel=>exact⟨(q),(wrap64 (c + 1)),qe_,H',⟨by have:=HK1.out;have:=HK2.out;omega⟩,⟨ra_ o⟩,⟨qk_ j⟩,⟨qB_⟩⟩
     refine jg_ H ?_;clear H;intro c0 H
     have a7:=am_ c0
     clear c0
     generalize I:(q++[(⟨(rd_T43 l0 c).f0,(rd_T43 l0 c).f1⟩:S43)])=f9 at H;replace H:=bh_ H;have a8:=am_ I.symm;clear I;have H' :=am_ H;clear H
     try go_wp2
     replace o:=rd_ o;replace j:=bd_ j;replace HB:=hd_ HB
     have E:=dt_ c
     have F:=du_ c l0.length
     obtain⟨m,G,M,O⟩:=at_T43 b0.out c (ot_ E) (ot_ F)
     have b8:=O;have b9:=M;cases G
     replace M:=qx_ HB M
     replace O:=qx_ HB O
     refine start_ (n:=6) (S:=fun w' =>w'.cell? ⟨s,0,none⟩=some (.int .i64 d)∧w'.cell? ⟨s,1,none⟩=some (.int .i64 g)∧w'.cell? (m.add ((c).toNat * 2))=some (.int .i64 ((rd_T43 l0 c).f0))∧w'.cell? ⟨(m.add ((c).toNat * 2)).block,(m.add ((c).toNat * 2)).off + 1,none⟩=some (.int .i64 ((rd_T43 l0 c).f1))) (ds:=[]) (bm 6 0) (by kernel_rfl) rfl (by kernel_rfl) ⟨bl_ j 0,bl_ j 1,((qx_ HB b9).trans rfl),((qx_ HB b8).trans rfl)⟩ (fun hHeld=> ?_)
     generalize wr.drew=g0 at o j HB M O hHeld ⊢
     refine pure_ (i:=1) (N:=some 39) (v:= ?_) (a' := ?_) (bm 6 2) rfl rfl (by kernel_rfl) (fun _ _ _ h=>h) (Or.inl ⟨by rfl,?_⟩) ?_ ?_
     rotate_left
     ·intro w'
      go_simp
      with_reducible rfl
     rotate_left
     ·simp only[Act.put,sA_,sB_,sC_,i64_w,i32_w]
      rfl
     refine pure_ (i:=2) (N:=some 40) (v:= ?_) (a' := ?_) (bm 6 6) rfl rfl (by kernel_rfl) (fun _ _ _ h=>h) (Or.inl ⟨by rfl,?_⟩) ?_ ?_
     rotate_left
     ·intro w'
      go_simp
      with_reducible rfl
     rotate_left
     ·simp only[Act.put,sA_,sB_,sC_,i64_w,i32_w]
      rfl
     refine pure_ (i:=3) (N:=some 41) (v:= ?_) (a' := ?_) (bm 6 14) rfl rfl (by kernel_rfl) (fun _ _ _ h=>h) (Or.inl ⟨by rfl,?_⟩) ?_ ?_
     rotate_left
     ·intro w'
      go_simp
      with_reducible rfl
     rotate_left
     ·simp only[Act.put,sA_,sB_,sC_,i64_w,i32_w]
      rfl
     refine take_ (i:=0) (N:=some 38) (v:= ?_) (a' := ?_) (bm 6 15) rfl rfl (by kernel_rfl) (fun _ _ _ h=>h) (Or.inl ⟨by rfl,?_⟩) hHeld ?_ ?_
     rotate_left
     ·rintro w' ⟨V,X,Y,Z⟩
      go_simp
      with_reducible rfl
     rotate_left
     ·simp only[Act.put,sA_,sB_,sC_,i64_w,i32_w]
      rfl
     refine take_ (i:=4) (N:=some 42) (v:= ?_) (a' := ?_) (bm 6 31) rfl rfl (by kernel_rfl) (fun _ _ _ h=>h) (Or.inl ⟨by rfl,?_⟩) hHeld ?_ ?_
     rotate_left
     ·rintro w' ⟨V,X,Y,Z⟩
      go_simp
      with_reducible rfl
     rotate_left
     ·simp only[Act.put,sA_,sB_,sC_,i64_w,i32_w]
      rfl
     refine one_ (i:=5) (N:=some 43) (bm 6 63) rfl rfl (by kernel_rfl) (by decide) (fun K hK=> ?_)
     refine gs_ Try.func135 #[.agg #[.int .i64 d,.int .i64 g],.agg #[.int .i64 ((rd_T43 l0 c).f0),.int .i64 ((rd_T43 l0 c).f1)]] ?_
     with_reducible refine(spec_l05Less.calls d g ((rd_T43 l0 c).f0) ((rd_T43 l0 c).f1) true _ b7.out).mono ?_
     rintro e g1 ⟨rfl,hb⟩
     refine⟨_,rfl,?_⟩
     replace o:=kb_ o hb;replace j:=qbl_ j hb;replace HB:=hs_ hb;clear hb
     refine hK.out _ _ ⟨bl_ j 0,bl_ j 1,((qx_ HB b9).trans rfl),((qx_ HB b8).trans rfl)⟩ (fun hHeld=> ?_)
     clear hK K
     refine nm_ 43 ?_
     refine done_ (by kernel_rfl) ?_
     have c1:=dt_ c
     have c2:=du_ c l0.length
     obtain⟨a9,c3,d4,d5⟩:=at_T43 b0.out c (ot_ c1) (ot_ c2)
     obtain rfl:m=a9:=(by injection c3)
     replace d4:=qx_ HB d4
     replace d5:=qx_ HB d5
     try go_wp2_with (first|((with_reducible refine gate_builtin (b:= .append) (xs:= #[.tmp 44,.tmp 49]) rfl ?_);at_builtin;refine Kd.R_append k43 (w0:=w) w.heap.size rfl (.tmp 44) (.tmp 49) 67 43 (.agg #[(.int .i64 0),(.int .i64 0)]) 16 rfl Try.underlying67 info43 rfl (by decide) (by omega) u5 q (⟨(rd_T43 l0 c).f0,(rd_T43 l0 c).f1⟩:S43) [.int .i64 ((rd_T43 l0 c).f0),.int .i64 ((rd_T43 l0 c).f1)] (fun k_=>k_≠s) (fun _=>False) rfl rfl ?aP (fun _ hk=>hk.elim) ?aF ?aO ?aB ?aS ?aL ?_;(case aP=>exact k43_mkM _ _ _ (⟨(rd_T43 l0 c).f0,(rd_T43 l0 c).f1⟩:S43));(case aB=>exact qB_);(case aF=>exact(fun k_ hk=>Kd.freshB (qk_ j) k_ hk));(case aO=>exact(qR_ o));(case aS=>exact(below_size qB_));(case aL=>have:=a7.out;omega);intro i0 g2 ho hb hg hat;rw[←a8.out]at ho;have g3:=am_ (ho);replace j:=am_ (blk_grown (qk_ j) hg (Kd.R_away o.out (fun _ hk=>hk)));replace HB:=am_ (hb);clear o ho hb hg hat))
     go_roundg d3
     case measure=>have:=HK1.out;have:=HK2.out;omega
     case rel=>exact⟨(f9),(wrap64 (c + 1)),qe_,H',⟨by have:=HK1.out;have:=HK2.out;omega⟩,⟨ra_ g3⟩,⟨qk_ j⟩,⟨qB_⟩⟩
def spec_AddEdge.f (k:Nat) (a0_0:Int) (l0_1:List (S43)) (a1_0:Int) (a1_1:Int):Option (Int × (List (S43)) × Bool):=(spec_GraphOk.f k a0_0 l0_1).bind fun t557=>(if t557=true then ((spec_EdgeOk.f a0_0 a1_0 a1_1).bind fun t558=>(if t558=true then ((spec_HasEdge.f k a0_0 l0_1 a1_0 a1_1).bind fun t559=>(if t559=true then (some (0,([]:List (S43)),false)) else ((spec_l05Put.f k l0_1 a1_0 a1_1).bind fun t560=>(some (a0_0,t560,true))))) else (some (0,([]:List (S43)),false)))) else (some (0,([]:List (S43)),false)))
def spec_AddEdge.T3:Bool × List (List Nat × List Nat):=(true,[([],[]),([0],[0]),([],[]),([2],[2]),([],[]),([3,4],[3,4]),([1,5],[1,5]),([6,5,0,1,2,3,4,5,6],[6]),([7,0,1,2,3,4,5,6,7],[])])
def spec_AddEdge.B3:List Nat:=[0,1,0,4,0,28,63,127,255]
theorem spec_AddEdge.tab3:rtab .any (opsOf Try.f87 3)=spec_AddEdge.T3:=by kernel_rfl
theorem spec_AddEdge.bits3:waitsOk spec_AddEdge.T3.2 spec_AddEdge.B3=true:=by kernel_rfl
theorem spec_AddEdge.calls (k:Nat) (a:Int) (l:Option Addr) (m:Nat) (c:List (S43)) (g:Int) (i:Int) (M:Int) (N:List (S43)) (O:Bool) (w:World) (hr0_1:Kd.C k43 w l c.length c) (hc0_1:c.length≤m) (h:spec_AddEdge.f k a c g i=some (M,N,O)):
  Calls Try.prog 87 #[.agg #[.int .i64 a,.slice l c.length m],.agg #[.int .i64 g,.int .i64 i]] w fun e w' =>∃ A:Value,e= .returned (.tuple #[.agg #[.int .i64 M,A],.bool O])∧Kd.R k43 43 w' w.heap.size (fun _=>True) A N∧Below w.heap.size w w' :=by
 have hu69:=Try.underlying69;have hu43:=Try.underlying43
 have q:=am_ hr0_1
 have s:=am_ hc0_1
 clear hr0_1 hc0_1
 have HB:=am_ (Below.refl w.heap.size w)
 have H:((spec_GraphOk.f k a c).bind fun a6=>(if a6=true then ((spec_EdgeOk.f a g i).bind fun a7=>(if a7=true then ((spec_HasEdge.f k a c g i).bind fun a8=>(if a8=true then (some (0,([]:List (S43)),false)) else ((spec_l05Put.f k c g i).bind fun B=>(some (a,B,true))))) else (some (0,([]:List (S43)),false)))) else (some (0,([]:List (S43)),false))))=some (M,N,O):=h
 clear h
 obtain⟨a6,L,H⟩:=bs_ H
 refine id_ H ?_ ?_<;>clear H<;>rintro rfl H
 ·simp only[Option.some.injEq,Prod.mk.injEq]at H
  obtain⟨rfl,rfl,rfl⟩:=H
  go_enter Try.func87,Try.ntmps87
  go_wp2_with (first|((with_reducible refine gd_ 2 ?_);refine by_ 2 (cs:= #[.int .i64 a,.slice l c.length m]) (t:=69) ?_;intro D hg b6 d hb;have T:=gw_ hg;replace HB:=hs_ hb;clear hb hg)|((with_reducible refine gd_ 3 ?_);refine by_ 3 (cs:= #[.int .i64 g,.int .i64 i]) (t:=43) ?_;intro E hg b7 j hb;have U:=gw_ hg;obtain⟨y,V⟩:=qn_ d hg;replace d:=qbl_ d hb;replace HB:=hs_ hb;clear hb hg)|((with_reducible refine gd_ 4 ?_);refine by_ 4 (cs:= #[.int .i64 0,.slice none 0 0]) (t:=69) ?_;intro u hg b8 o hb;have X:=gw_ hg;obtain⟨v,F⟩:=qn_ d hg;obtain⟨x,z⟩:=qn_ j hg;replace d:=qbl_ d hb;replace j:=qbl_ j hb;replace HB:=hs_ hb;clear hb hg;obtain⟨d6,d7⟩:=nn_ y;obtain⟨d8,d9⟩:=nn_ v;obtain⟨e0,e1,e2,e3⟩:=bc2_ d)|((with_reducible refine gc_ 56 ?_);refine gl_ (some 7) Try.func56 #[.agg #[.int .i64 a,.slice l c.length m]] ?_;(with_reducible refine(spec_GraphOk.calls k a _ _ c false _ ?_ ?_ L.out).mono ?_);exact qC_ q HB;exact s.out;rintro e b9 ⟨rfl,hb⟩;refine⟨_,rfl,?_⟩;replace d:=qbl_ d hb;replace j:=qbl_ j hb;replace o:=qbl_ o hb;replace HB:=hs_ hb;clear hb;obtain⟨l0,l1⟩:=nn_ z;obtain⟨e4,e5,e6,e7⟩:=bc2_ o))
  refine bodyPost_ret (results_ct rfl _ _ u 69 #[.int .i64 0,.slice none 0 0] (0,0) _ rfl (qp_ o) Try.underlying69 rfl (by kernel_rfl)) rfl ?_
  exact⟨_,qr_,by first|exact Kd.R_nil _ _ _ _ _|exact Kd.N_nil _ _ _ _ _|exact Kd.V_nil _ _ _ _ _|exact Kd.Q_nil _ _ _ _ _|exact Kd.S_nil _ _ _ _ _,qB_⟩
 obtain⟨a7,Y,H⟩:=bs_ H
 refine id_ H ?_ ?_<;>clear H<;>rintro rfl H
 ·simp only[Option.some.injEq,Prod.mk.injEq]at H
  obtain⟨rfl,rfl,rfl⟩:=H
  go_enter Try.func87,Try.ntmps87
  go_wp2_with (first|((with_reducible refine gd_ 2 ?_);refine by_ 2 (cs:= #[.int .i64 a,.slice l c.length m]) (t:=69) ?_;intro D hg c0 d hb;have T:=gw_ hg;replace HB:=hs_ hb;clear hb hg)|((with_reducible refine gd_ 3 ?_);refine by_ 3 (cs:= #[.int .i64 g,.int .i64 i]) (t:=43) ?_;intro E hg c1 j hb;have U:=gw_ hg;obtain⟨y,V⟩:=qn_ d hg;replace d:=qbl_ d hb;replace HB:=hs_ hb;clear hb hg)|((with_reducible refine gd_ 4 ?_);refine by_ 4 (cs:= #[.int .i64 0,.slice none 0 0]) (t:=69) ?_;intro u hg c2 o hb;have X:=gw_ hg;obtain⟨v,F⟩:=qn_ d hg;obtain⟨x,z⟩:=qn_ j hg;replace d:=qbl_ d hb;replace j:=qbl_ j hb;replace HB:=hs_ hb;clear hb hg;obtain⟨l2,l3⟩:=nn_ y;obtain⟨e8,e9⟩:=nn_ v;obtain⟨f0,f1,f2,f3⟩:=bc2_ d)|((with_reducible refine gc_ 56 ?_);refine gl_ (some 7) Try.func56 #[.agg #[.int .i64 a,.slice l c.length m]] ?_;(with_reducible refine(spec_GraphOk.calls k a _ _ c true _ ?_ ?_ L.out).mono ?_);exact qC_ q HB;exact s.out;rintro e c3 ⟨rfl,hb⟩;refine⟨_,rfl,?_⟩;replace d:=qbl_ d hb;replace j:=qbl_ j hb;replace o:=qbl_ o hb;replace HB:=hs_ hb;clear hb;obtain⟨f4,f5,f6,f7⟩:=bc2_ d;obtain⟨f8,f9⟩:=nn_ x;obtain⟨g0,g1,g2,g3⟩:=bc2_ j)|(go_at_call 71;(with_reducible refine(spec_EdgeOk.calls a g i false _ Y.out).mono ?_);rintro e c4 ⟨rfl,hb⟩;replace d:=qbl_ d hb;replace j:=qbl_ j hb;replace o:=qbl_ o hb;replace HB:=hs_ hb;clear hb;obtain⟨g4,g5,g6,g7⟩:=bc2_ o))
  refine bodyPost_ret (results_ct rfl _ _ u 69 #[.int .i64 0,.slice none 0 0] (0,0) _ rfl (qp_ o) Try.underlying69 rfl (by kernel_rfl)) rfl ?_
  exact⟨_,qr_,by first|exact Kd.R_nil _ _ _ _ _|exact Kd.N_nil _ _ _ _ _|exact Kd.V_nil _ _ _ _ _|exact Kd.Q_nil _ _ _ _ _|exact Kd.S_nil _ _ _ _ _,qB_⟩
 obtain⟨a8,a9,H⟩:=bs_ H
 refine ie_ H ?_ ?_<;>clear H<;>rintro rfl H
 ·simp only[Option.some.injEq,Prod.mk.injEq]at H
  obtain⟨rfl,rfl,rfl⟩:=H
  go_enter Try.func87,Try.ntmps87
  go_wp2_with (first|((with_reducible refine gd_ 2 ?_);refine by_ 2 (cs:= #[.int .i64 a,.slice l c.length m]) (t:=69) ?_;intro D hg g8 d hb;have T:=gw_ hg;replace HB:=hs_ hb;clear hb hg)|((with_reducible refine gd_ 3 ?_);refine by_ 3 (cs:= #[.int .i64 g,.int .i64 i]) (t:=43) ?_;intro E hg c5 j hb;have U:=gw_ hg;obtain⟨y,V⟩:=qn_ d hg;replace d:=qbl_ d hb;replace HB:=hs_ hb;clear hb hg)|((with_reducible refine gd_ 4 ?_);refine by_ 4 (cs:= #[.int .i64 0,.slice none 0 0]) (t:=69) ?_;intro u hg c6 o hb;have X:=gw_ hg;obtain⟨v,F⟩:=qn_ d hg;obtain⟨x,z⟩:=qn_ j hg;replace d:=qbl_ d hb;replace j:=qbl_ j hb;replace HB:=hs_ hb;clear hb hg;obtain⟨g9,h0⟩:=nn_ y;obtain⟨h1,h2⟩:=nn_ v;obtain⟨h3,h4,h5,h6⟩:=bc2_ d)|((with_reducible refine gc_ 56 ?_);refine gl_ (some 7) Try.func56 #[.agg #[.int .i64 a,.slice l c.length m]] ?_;(with_reducible refine(spec_GraphOk.calls k a _ _ c true _ ?_ ?_ L.out).mono ?_);exact qC_ q HB;exact s.out;rintro e c7 ⟨rfl,hb⟩;refine⟨_,rfl,?_⟩;replace d:=qbl_ d hb;replace j:=qbl_ j hb;replace o:=qbl_ o hb;replace HB:=hs_ hb;clear hb;obtain⟨h7,h8,h9,i0⟩:=bc2_ d;obtain⟨i1,i2⟩:=nn_ x;obtain⟨i3,i4,i5,i6⟩:=bc2_ j)|(go_at_call 71;(with_reducible refine(spec_EdgeOk.calls a g i true _ Y.out).mono ?_);rintro e c8 ⟨rfl,hb⟩;replace d:=qbl_ d hb;replace j:=qbl_ j hb;replace o:=qbl_ o hb;replace HB:=hs_ hb;clear hb;obtain⟨i7,i8,i9,j5⟩:=bc2_ d;obtain⟨j6,j7,j8,j9⟩:=bc2_ j)|(go_at_call 46;(with_reducible refine(spec_HasEdge.calls k a _ _ c g i true _ ?_ ?_ a9.out).mono ?_);exact qC_ q HB;exact s.out;rintro e c9 ⟨rfl,hb⟩;replace d:=qbl_ d hb;replace j:=qbl_ j hb;replace o:=qbl_ o hb;replace HB:=hs_ hb;clear hb;obtain⟨k0,k1,k2,k3⟩:=bc2_ o))
  refine bodyPost_ret (results_ct rfl _ _ u 69 #[.int .i64 0,.slice none 0 0] (0,0) _ rfl (qp_ o) Try.underlying69 rfl (by kernel_rfl)) rfl ?_
  exact⟨_,qr_,by first|exact Kd.R_nil _ _ _ _ _|exact Kd.N_nil _ _ _ _ _|exact Kd.V_nil _ _ _ _ _|exact Kd.Q_nil _ _ _ _ _|exact Kd.S_nil _ _ _ _ _,qB_⟩
 obtain⟨B,Z,H⟩:=bs_ H
 simp only[Option.some.injEq,Prod.mk.injEq]at H
 obtain⟨rfl,rfl,rfl⟩:=H
 go_enter Try.func87,Try.ntmps87
 try go_wp2_with (first|((with_reducible refine gd_ 2 ?_);refine by_ 2 (cs:= #[.int .i64 a,.slice l c.length m]) (t:=69) ?_;intro D hg d0 d hb;have T:=gw_ hg;replace HB:=hs_ hb;clear hb hg)|((with_reducible refine gd_ 3 ?_);refine by_ 3 (cs:= #[.int .i64 g,.int .i64 i]) (t:=43) ?_;intro E hg d1 j hb;have U:=gw_ hg;obtain⟨y,V⟩:=qn_ d hg;replace d:=qbl_ d hb;replace HB:=hs_ hb;clear hb hg)|((with_reducible refine gd_ 4 ?_);refine by_ 4 (cs:= #[.int .i64 0,.slice none 0 0]) (t:=69) ?_;intro u hg d2 o hb;have X:=gw_ hg;obtain⟨v,F⟩:=qn_ d hg;obtain⟨x,z⟩:=qn_ j hg;replace d:=qbl_ d hb;replace j:=qbl_ j hb;replace HB:=hs_ hb;clear hb hg;obtain⟨k4,k5⟩:=nn_ y;obtain⟨k6,k7⟩:=nn_ v;obtain⟨k8,k9,l4,l5⟩:=bc2_ d)|((with_reducible refine gc_ 56 ?_);refine gl_ (some 7) Try.func56 #[.agg #[.int .i64 a,.slice l c.length m]] ?_;(with_reducible refine(spec_GraphOk.calls k a _ _ c true _ ?_ ?_ L.out).mono ?_);exact qC_ q HB;exact s.out;rintro e d3 ⟨rfl,hb⟩;refine⟨_,rfl,?_⟩;replace d:=qbl_ d hb;replace j:=qbl_ j hb;replace o:=qbl_ o hb;replace HB:=hs_ hb;clear hb;obtain⟨l6,l7,l8,l9⟩:=bc2_ d;obtain⟨m0,m1⟩:=nn_ x;obtain⟨m2,m3,m4,m5⟩:=bc2_ j)|(go_at_call 71;(with_reducible refine(spec_EdgeOk.calls a g i true _ Y.out).mono ?_);rintro e d4 ⟨rfl,hb⟩;replace d:=qbl_ d hb;replace j:=qbl_ j hb;replace o:=qbl_ o hb;replace HB:=hs_ hb;clear hb;obtain⟨j0,j1,j2,j3⟩:=bc2_ d;obtain⟨j4,m6,m7,m8⟩:=bc2_ j)|(go_at_call 46;(with_reducible refine(spec_HasEdge.calls k a _ _ c g i false _ ?_ ?_ a9.out).mono ?_);exact qC_ q HB;exact s.out;rintro e a0 ⟨rfl,hb⟩;replace d:=qbl_ d hb;replace j:=qbl_ j hb;replace o:=qbl_ o hb;replace HB:=hs_ hb;clear hb))
 replace d:=bd_ d;replace j:=bd_ j;replace o:=bd_ o;replace HB:=hd_ HB
 refine start_ (n:=9) (S:=fun w' =>w'.cell? ⟨D,0,none⟩=some (.int .i64 a)∧w'.cell? ⟨D,1,none⟩=some (.slice l c.length m)∧w'.cell? ⟨E,0,none⟩=some (.int .i64 g)∧w'.cell? ⟨E,1,none⟩=some (.int .i64 i)) (ds:=[]) (bm 9 0) (by kernel_rfl) rfl (by kernel_rfl) ⟨bl_ d 0,bl_ d 1,bl_ j 0,bl_ j 1⟩ (fun hHeld=> ?_);refine with_tabW spec_AddEdge.tab3 spec_AddEdge.bits3 (fun HT_ HW_=> ?_)
 generalize a0.drew=d5 at d j o HB hHeld ⊢
 refine pz_ 0 22 9 1 ?_;refine pz_ 2 24 9 5 ?_;refine tz4_ 1 23 9 7 ?_;refine tz4_ 3 25 9 15 ?_;refine tz4_ 4 26 9 31 ?_
 refine o1_ 5 (some 27) 9 63 (fun K hK=> ?_)
 refine gs_ Try.func127 #[.slice l c.length m,.agg #[.int .i64 g,.int .i64 i]] ?_
 with_reducible refine(spec_l05Put.calls k _ _ c g i B _ ?side1 ?side2 Z.out).mono ?_
 (case side1=>exact qC_ q HB)
 (case side2=>exact s.out)
 rintro e G ⟨m9,rfl,ho0,hb⟩
 refine⟨_,rfl,?_⟩
 have b0:=am_ (Kd.R_lower (Kd.R_newB ho0 (qk_ j)) (below_size qB_));replace d:=qbl_ d hb;replace j:=qbl_ j hb;replace o:=qbl_ o hb;replace HB:=hs_ hb;clear hb ho0
 obtain⟨b1,b2,b3⟩:=Kd.R_slice b0.out
 (first|subst b3|(injection b3 with I a1 J;have a2:=I.symm;have a3:=J.symm;clear I a1 J;subst a2;subst a3))
 refine hK.out _ _ ⟨bl_ d 0,bl_ d 1,bl_ j 0,bl_ j 1⟩ (fun hHeld=> ?_)
 clear hK K
 refine nm_ 27 ?_
 refine pz_ 6 28 9 127 ?_
 refine o1_ 7 none 9 255 (fun K hK=> ?_)
 have b4:G.cell? ⟨u,0,none⟩=some (.int .i64 0):=bl_ o 0
 have a4:=blk_frozen o.out 0
 have n0:=v.out;have n1:=x.out;have n2:=F.out;have n3:=z.out
 have b5:G.cell? ⟨u,1,none⟩=some (.slice none 0 0):=bl_ o 1
 have a5:=blk_frozen o.out 1
 have n4:=v.out;have n5:=x.out;have n6:=F.out;have n7:=z.out
 refine skip_ (w1:= ?_) (by rfl) rfl ?_ ?_
 rotate_left
 ·go_simp
  rfl
 refine hK.out _ _ ⟨((cell_far (p:=⟨u,_,none⟩) v.out _).trans (((cell_far (p:=⟨u,_,none⟩) v.out _).trans (hHeld.1)))),((cell_far (p:=⟨u,_,none⟩) v.out _).trans (((cell_far (p:=⟨u,_,none⟩) v.out _).trans (hHeld.2.1)))),((cell_far (p:=⟨u,_,none⟩) x.out _).trans (((cell_far (p:=⟨u,_,none⟩) x.out _).trans (hHeld.2.2.1)))),((cell_far (p:=⟨u,_,none⟩) x.out _).trans (((cell_far (p:=⟨u,_,none⟩) x.out _).trans (hHeld.2.2.2))))⟩ (fun hHeld=> ?_)
 clear hK K;refine pz_ 8 5 9 511 ?_
 refine done_ (done_of HT_.out (by kernel_rfl)) ?_
 try go_wp2
 refine bodyPost_ret (results_ct rfl _ _ u 69 #[.int .i64 a,.slice b1 B.length b2] (0,0) _ rfl (qp_ o) Try.underlying69 rfl (by kernel_rfl)) rfl ?_
 exact⟨_,qr_,by(with_reducible repeat(first|apply Kd.R_alloc|apply Kd.R_drewN|apply Kd.R_drew));exact Kd.R_mono (Kd.R_far (p:=⟨u,1,none⟩) (Kd.R_far (p:=⟨u,0,none⟩) (Kd.R_types b0.out o.out (by decide)) (fun _ hk=>hk.2) (.int .i64 a)) (fun _ hk=>hk.2) (.slice b1 B.length b2)) (fun _ hk=>trivial),qB_⟩
end Go.Proofs.Ytbkklafkoegdpaa.QFnTakes

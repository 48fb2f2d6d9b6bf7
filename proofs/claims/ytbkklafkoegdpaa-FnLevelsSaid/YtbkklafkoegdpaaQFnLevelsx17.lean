import Derived.Test.YtbkklafkoegdpaaQFnLevelsx10
namespace Go.Proofs.Ytbkklafkoegdpaa.QFnLevels
open Go.RowKit Go.Proofs.YtbkklafkoegdpaaW.PrintWords Go.Proofs.YtbkklafkoegdpaaW.PrintLast Go.Proofs.YtbkklafkoegdpaaW.PrintMore
set_option maxHeartbeats 8000000
set_option maxRecDepth 100000
set_option linter.unusedVariables false
set_option linter.unusedSimpArgs false
def spec_HasEdge.f (k:Nat) (a0_0:Int) (l0_1:List (S43)) (a1_0:Int) (a1_1:Int):Option (Bool):=(spec_l05Has.f k l0_1 a1_0 a1_1).bind fun t393=>(some t393)
theorem spec_HasEdge.calls (k:Nat) (j:Int) (g:Option Addr) (i:Nat) (a:List (S43)) (c:Int) (d:Int) (r:Bool) (w:World) (hr0_1:Kd.C k43 w g a.length a) (hc0_1:a.length≤i) (h:spec_HasEdge.f k j a c d=some r):
  Calls Try.prog 46 #[.agg #[.int .i64 j,.slice g a.length i],.agg #[.int .i64 c,.int .i64 d]] w fun e w' =>e= .returned (.bool r)∧Below w.heap.size w w' :=by
 have hu69:=Try.underlying69;have hu43:=Try.underlying43
 have l:=am_ hr0_1
 have m:=am_ hc0_1
 clear hr0_1 hc0_1
 have HB:=am_ (Below.refl w.heap.size w)
 rw[spec_HasEdge.f]at h;have H:=h;clear h
 obtain⟨p,q,H⟩:=bs_ H
 obtain rfl:=oi_ H
 go_enter Try.func46,Try.ntmps46
 go_wp2_with (first|((with_reducible refine gd_ 2 ?_);refine by_ 2 (cs:= #[.int .i64 j,.slice g a.length i]) (t:=69) ?_;intro u hg v n hb;have x:=gw_ hg;replace HB:=hs_ hb;clear hb hg)|((with_reducible refine gd_ 3 ?_);refine by_ 3 (cs:= #[.int .i64 c,.int .i64 d]) (t:=43) ?_;intro y hg z o hb;have A:=gw_ hg;obtain⟨s,B⟩:=qn_ n hg;replace n:=qbl_ n hb;replace HB:=hs_ hb;clear hb hg;obtain⟨D,E⟩:=nn_ s;obtain⟨F,G,I,J⟩:=bc2_ n;obtain⟨L,M,N,O⟩:=bc2_ o)|((with_reducible refine gc_ 101 ?_);refine gl_ (some 8) Try.func101 #[.slice g a.length i,.agg #[.int .i64 c,.int .i64 d]] ?_;(with_reducible refine(spec_l05Has.calls k _ _ a c d p _ ?_ ?_ q.out).mono ?_);exact qC_ l HB;exact m.out;rintro e R ⟨rfl,hb⟩;refine⟨_,rfl,?_⟩;replace n:=qbl_ n hb;replace o:=qbl_ o hb;replace HB:=hs_ hb;clear hb;(try clear hb2)))
 go_ret
 exact⟨qr_,qB_⟩
mutual
def spec_l05Put.l0:Nat→List (S43)→List (S43)→Int→Int→Int→Option ((List (S43)))
  |0,_,_,_,_,_=>none
  |k + 1,x0,x5,x6,x395000,x395001=>if x6<(x0.length:Int) then (if 0≤x6 then ((spec_l05Less.f ((rd_T43 x0 x6).f0) ((rd_T43 x0 x6).f1) x395000 x395001).bind fun t399=>(if t399=true then (if x5.length<8796093022208 then (spec_l05Put.l0 k x0 (x5++[(⟨(rd_T43 x0 x6).f0,(rd_T43 x0 x6).f1⟩:S43)]) (wrap64 (x6 + 1)) x395000 x395001) else (none)) else (spec_l05Put.l0 k x0 x5 (wrap64 (x6 + 1)) x395000 x395001))) else (none)) else (if x5.length<8796093022208 then (spec_l05Put.l1 k x0 (x5++[(⟨x395000,x395001⟩:S43)]) 0 x395000 x395001) else (none))
def spec_l05Put.l1:Nat→List (S43)→List (S43)→Int→Int→Int→Option ((List (S43)))
  |0,_,_,_,_,_=>none
  |k + 1,x0,x5,x7,x395000,x395001=>if x7<(x0.length:Int) then (if 0≤x7 then ((spec_l05Less.f x395000 x395001 ((rd_T43 x0 x7).f0) ((rd_T43 x0 x7).f1)).bind fun t408=>(if t408=true then (if x5.length<8796093022208 then (spec_l05Put.l1 k x0 (x5++[(⟨(rd_T43 x0 x7).f0,(rd_T43 x0 x7).f1⟩:S43)]) (wrap64 (x7 + 1)) x395000 x395001) else (none)) else (spec_l05Put.l1 k x0 x5 (wrap64 (x7 + 1)) x395000 x395001))) else (none)) else (some x5)
end
def spec_l05Put.f (k:Nat) (l0:List (S43)) (a1_0:Int) (a1_1:Int):Option ((List (S43))):=spec_l05Put.l0 k l0 (([]:List (S43))) 0 a1_0 a1_1
theorem spec_l05Put.calls (k:Nat) (c9:Option Addr) (d0:Nat) (l0:List (S43)) (d:Int) (g:Int) (r:List (S43)) (w:World) (hr0:Kd.C k43 w c9 l0.length l0) (hc0:l0.length≤d0) (h:spec_l05Put.f k l0 d g=some r):
  Calls Try.prog 127 #[.slice c9 l0.length d0,.agg #[.int .i64 d,.int .i64 g]] w fun e w' =>∃ b1:Value,e= .returned (b1)∧Kd.R k43 43 w' w.heap.size (fun _=>True) b1 r∧Below w.heap.size w w' :=by
 have hu43:=Try.underlying43
 have b0:=am_ hr0
 have g4:=am_ hc0
 clear hr0 hc0
 have HB:=am_ (Below.refl w.heap.size w)
 rw[spec_l05Put.f]at h;have H:=h;clear h
 generalize y:(([]:List (S43)))=d6 at H;replace H:=bh_ H;have z:=am_ y.symm;clear y;have H' :=am_ H;clear H
 go_enter Try.func127,Try.ntmps127
 go_wp2_with (first|((with_reducible refine gd_ 3 ?_);refine by_ 3 (cs:= #[.int .i64 d,.int .i64 g]) (t:=43) ?_;intro s hg g5 j hb;have g6:=gw_ hg;replace HB:=hs_ hb;clear hb hg)|((with_reducible refine gd_ 8 ?_);refine Kd.R_lit k43 _ 43 ?hg (N:=8) ?hd (xs:=([]:List (S43))) (inner:=[]) (ok:=fun _=>True) (okp:=fun _=>True) ?hr ?hp (fun _ hk=>hk) trivial (Below.refl _ _) (Nat.le_refl _) (by simp) ?_;(case hd=>rfl);(case hg=>rfl);(case hr=>first|(go_simp;done)|(go_simp;rfl));(case hp=>exact(Reps.none _ _));intro g7 g8 ho5 hb hg_ hnew_;clear hg_ hnew_;(first|rw[←z.out]at ho5|(simp only[Int.reduceToNat]at ho5;rw[←z.out]at ho5));have d7:=am_ (Kd.R_lower (Kd.R_newB ho5 (qk_ j)) (below_size qB_));replace j:=qbl_ j hb;replace HB:=hs_ hb;clear hb ho5))
 go_loopg [5,6] k (fun kq v5 v6 w' =>∃ (p:List (S43)) (a:Int),v6= .int .i64 a∧Aside0 (spec_l05Put.l0 kq l0 p a d g=some r)∧Aside0 (kq≤k)∧Aside0 (Kd.R k43 43 w' w.heap.size (fun k_=>k_≠s) v5 p)∧Aside0 (w'.heap[s]? =some (.cells #[.int .i64 d,.int .i64 g] 43 (0,0)))∧Aside0 (Below w.heap.size w w'))
 case atStart=>exact⟨(d6),(0),qe_,H',⟨Nat.le_refl _⟩,⟨by(with_reducible repeat(first|apply Kd.R_alloc|apply Kd.R_drewN|apply Kd.R_drew));exact Kd.R_mono d7.out (fun _ hk=>hk.2)⟩,⟨qk_ j⟩,⟨qB_⟩⟩
 case round=>
  clear H'
  obtain⟨p,a,rfl,HA,HK1,o,j,HB⟩:=hrel
  cases gk with
  |zero=>exact absurd HA.out (by simp [spec_l05Put.l0])
  |succ c4=>
   have H:=HA.out;clear HA
   simp only[spec_l05Put.l0]at H
   refine ic_ H ?_ ?_<;>clear H<;>intro b2 H
   ·refine ig_ H ?_;clear H;intro b3 H
    obtain⟨g9,d2,H⟩:=bs_ H
    refine id_ H ?_ ?_<;>clear H<;>rintro rfl H
    ·have H' :=am_ H;clear H
     try go_wp2
     replace o:=rd_ o;replace j:=bd_ j;replace HB:=hd_ HB
     have u:=dt_ a
     have x:=du_ a l0.length
     obtain⟨l,A,J,L⟩:=at_T43 b0.out a (ot_ u) (ot_ x)
     have b4:=L;have b5:=J;cases A
     replace J:=qx_ HB J
     replace L:=qx_ HB L
     refine start_ (n:=6) (S:=fun w' =>w'.cell? ⟨s,0,none⟩=some (.int .i64 d)∧w'.cell? ⟨s,1,none⟩=some (.int .i64 g)∧w'.cell? (l.add ((a).toNat * 2))=some (.int .i64 ((rd_T43 l0 a).f0))∧w'.cell? ⟨(l.add ((a).toNat * 2)).block,(l.add ((a).toNat * 2)).off + 1,none⟩=some (.int .i64 ((rd_T43 l0 a).f1))) (ds:=[]) (bm 6 0) (by kernel_rfl) rfl (by kernel_rfl) ⟨bl_ j 0,bl_ j 1,((qx_ HB b5).trans rfl),((qx_ HB b4).trans rfl)⟩ (fun hHeld=> ?_)
     generalize wr.drew=d9 at o j HB J L hHeld ⊢
     refine pure_ (i:=0) (N:=some 15) (v:= ?_) (a' := ?_) (bm 6 1) rfl rfl (by kernel_rfl) (fun _ _ _ h=>h) (Or.inl ⟨by rfl,?_⟩) ?_ ?_
     rotate_left
     ·intro w'
      go_simp
      with_reducible rfl
     rotate_left
     ·simp only[Act.put,sA_,sB_,sC_,i64_w,i32_w]
      rfl
     refine pure_ (i:=1) (N:=some 16) (v:= ?_) (a' := ?_) (bm 6 3) rfl rfl (by kernel_rfl) (fun _ _ _ h=>h) (Or.inl ⟨by rfl,?_⟩) ?_ ?_
     rotate_left
     ·intro w'
      go_simp
      with_reducible rfl
     rotate_left
     ·simp only[Act.put,sA_,sB_,sC_,i64_w,i32_w]
      rfl
     refine pure_ (i:=2) (N:=some 17) (v:= ?_) (a' := ?_) (bm 6 7) rfl rfl (by kernel_rfl) (fun _ _ _ h=>h) (Or.inl ⟨by rfl,?_⟩) ?_ ?_
     rotate_left
     ·intro w'
      go_simp
      with_reducible rfl
     rotate_left
     ·simp only[Act.put,sA_,sB_,sC_,i64_w,i32_w]
      rfl
     refine take_ (i:=3) (N:=some 18) (v:= ?_) (a' := ?_) (bm 6 15) rfl rfl (by kernel_rfl) (fun _ _ _ h=>h) (Or.inl ⟨by rfl,?_⟩) hHeld ?_ ?_
     rotate_left
     ·rintro w' ⟨V,X,Y,Z⟩
      go_simp
      with_reducible rfl
     rotate_left
     ·simp only[Act.put,sA_,sB_,sC_,i64_w,i32_w]
      rfl
     refine take_ (i:=4) (N:=some 19) (v:= ?_) (a' := ?_) (bm 6 31) rfl rfl (by kernel_rfl) (fun _ _ _ h=>h) (Or.inl ⟨by rfl,?_⟩) hHeld ?_ ?_
     rotate_left
     ·rintro w' ⟨V,X,Y,Z⟩
      go_simp
      with_reducible rfl
     rotate_left
     ·simp only[Act.put,sA_,sB_,sC_,i64_w,i32_w]
      rfl
     refine one_ (i:=5) (N:=some 20) (bm 6 63) rfl rfl (by kernel_rfl) (by decide) (fun K hK=> ?_)
     refine gs_ Try.func135 #[.agg #[.int .i64 ((rd_T43 l0 a).f0),.int .i64 ((rd_T43 l0 a).f1)],.agg #[.int .i64 d,.int .i64 g]] ?_
     with_reducible refine(spec_l05Less.calls ((rd_T43 l0 a).f0) ((rd_T43 l0 a).f1) d g false _ d2.out).mono ?_
     rintro e e0 ⟨rfl,hb⟩
     refine⟨_,rfl,?_⟩
     replace o:=kb_ o hb;replace j:=qbl_ j hb;replace HB:=hs_ hb;clear hb
     refine hK.out _ _ ⟨bl_ j 0,bl_ j 1,((qx_ HB b5).trans rfl),((qx_ HB b4).trans rfl)⟩ (fun hHeld=> ?_)
     clear hK K
     refine nm_ 20 ?_
     refine done_ (by kernel_rfl) ?_
     try go_wp2
     go_roundg c4
     case measure=>have:=HK1.out;omega
     case rel=>exact⟨(p),(wrap64 (a + 1)),qe_,H',⟨by have:=HK1.out;omega⟩,⟨ra_ o⟩,⟨qk_ j⟩,⟨qB_⟩⟩
    refine jg_ H ?_;clear H;intro a0 H
    have a1:=am_ a0
    clear a0
    generalize B:(p++[(⟨(rd_T43 l0 a).f0,(rd_T43 l0 a).f1⟩:S43)])=e1 at H;replace H:=bh_ H;have a2:=am_ B.symm;clear B;have H' :=am_ H;clear H
    try go_wp2
    replace o:=rd_ o;replace j:=bd_ j;replace HB:=hd_ HB
    have u:=dt_ a
    have x:=du_ a l0.length
    obtain⟨l,A,J,L⟩:=at_T43 b0.out a (ot_ u) (ot_ x)
    have b4:=L;have b5:=J;cases A
    replace J:=qx_ HB J
    replace L:=qx_ HB L
    refine start_ (n:=6) (S:=fun w' =>w'.cell? ⟨s,0,none⟩=some (.int .i64 d)∧w'.cell? ⟨s,1,none⟩=some (.int .i64 g)∧w'.cell? (l.add ((a).toNat * 2))=some (.int .i64 ((rd_T43 l0 a).f0))∧w'.cell? ⟨(l.add ((a).toNat * 2)).block,(l.add ((a).toNat * 2)).off + 1,none⟩=some (.int .i64 ((rd_T43 l0 a).f1))) (ds:=[]) (bm 6 0) (by kernel_rfl) rfl (by kernel_rfl) ⟨bl_ j 0,bl_ j 1,((qx_ HB b5).trans rfl),((qx_ HB b4).trans rfl)⟩ (fun hHeld=> ?_)
    generalize wr.drew=e2 at o j HB J L hHeld ⊢
    refine pure_ (i:=0) (N:=some 15) (v:= ?_) (a' := ?_) (bm 6 1) rfl rfl (by kernel_rfl) (fun _ _ _ h=>h) (Or.inl ⟨by rfl,?_⟩) ?_ ?_
    rotate_left
    ·intro w'
     go_simp
     with_reducible rfl
    rotate_left
    ·simp only[Act.put,sA_,sB_,sC_,i64_w,i32_w]
     rfl
    refine pure_ (i:=1) (N:=some 16) (v:= ?_) (a' := ?_) (bm 6 3) rfl rfl (by kernel_rfl) (fun _ _ _ h=>h) (Or.inl ⟨by rfl,?_⟩) ?_ ?_
    rotate_left
    ·intro w'
     go_simp
     with_reducible rfl
    rotate_left
    ·simp only[Act.put,sA_,sB_,sC_,i64_w,i32_w]
     rfl
    refine pure_ (i:=2) (N:=some 17) (v:= ?_) (a' := ?_) (bm 6 7) rfl rfl (by kernel_rfl) (fun _ _ _ h=>h) (Or.inl ⟨by rfl,?_⟩) ?_ ?_
    rotate_left
    ·intro w'
     go_simp
     with_reducible rfl
    rotate_left
    ·simp only[Act.put,sA_,sB_,sC_,i64_w,i32_w]
     rfl
    refine take_ (i:=3) (N:=some 18) (v:= ?_) (a' := ?_) (bm 6 15) rfl rfl (by kernel_rfl) (fun _ _ _ h=>h) (Or.inl ⟨by rfl,?_⟩) hHeld ?_ ?_
    rotate_left
    ·rintro w' ⟨V,X,Y,Z⟩
     go_simp
     with_reducible rfl
    rotate_left
    ·simp only[Act.put,sA_,sB_,sC_,i64_w,i32_w]
     rfl
    refine take_ (i:=4) (N:=some 19) (v:= ?_) (a' := ?_) (bm 6 31) rfl rfl (by kernel_rfl) (fun _ _ _ h=>h) (Or.inl ⟨by rfl,?_⟩) hHeld ?_ ?_
    rotate_left
    ·rintro w' ⟨V,X,Y,Z⟩
     go_simp
     with_reducible rfl
    rotate_left
    ·simp only[Act.put,sA_,sB_,sC_,i64_w,i32_w]
     rfl
    refine one_ (i:=5) (N:=some 20) (bm 6 63) rfl rfl (by kernel_rfl) (by decide) (fun K hK=> ?_)
    refine gs_ Try.func135 #[.agg #[.int .i64 ((rd_T43 l0 a).f0),.int .i64 ((rd_T43 l0 a).f1)],.agg #[.int .i64 d,.int .i64 g]] ?_
    with_reducible refine(spec_l05Less.calls ((rd_T43 l0 a).f0) ((rd_T43 l0 a).f1) d g true _ d2.out).mono ?_
    rintro e e3 ⟨rfl,hb⟩
    refine⟨_,rfl,?_⟩
    replace o:=kb_ o hb;replace j:=qbl_ j hb;replace HB:=hs_ hb;clear hb
    refine hK.out _ _ ⟨bl_ j 0,bl_ j 1,((qx_ HB b5).trans rfl),((qx_ HB b4).trans rfl)⟩ (fun hHeld=> ?_)
    clear hK K
    refine nm_ 20 ?_
    refine done_ (by kernel_rfl) ?_
    have T:=dt_ a
    have U:=du_ a l0.length
    obtain⟨a3,b6,c5,c6⟩:=at_T43 b0.out a (ot_ T) (ot_ U)
    obtain rfl:l=a3:=(by injection b6)
    replace c5:=qx_ HB c5
    replace c6:=qx_ HB c6
    try go_wp2_with (first|((with_reducible refine gate_builtin (b:= .append) (xs:= #[.tmp 21,.tmp 26]) rfl ?_);at_builtin;refine Kd.R_append k43 (w0:=w) w.heap.size rfl (.tmp 21) (.tmp 26) 67 43 (.agg #[(.int .i64 0),(.int .i64 0)]) 16 rfl Try.underlying67 info43 rfl (by decide) (by omega) u5 p (⟨(rd_T43 l0 a).f0,(rd_T43 l0 a).f1⟩:S43) [.int .i64 ((rd_T43 l0 a).f0),.int .i64 ((rd_T43 l0 a).f1)] (fun k_=>k_≠s) (fun _=>False) rfl rfl ?aP (fun _ hk=>hk.elim) ?aF ?aO ?aB ?aS ?aL ?_;(case aP=>exact k43_mkM _ _ _ (⟨(rd_T43 l0 a).f0,(rd_T43 l0 a).f1⟩:S43));(case aB=>exact qB_);(case aF=>exact(fun k_ hk=>Kd.freshB (qk_ j) k_ hk));(case aO=>exact(qR_ o));(case aS=>exact(below_size qB_));(case aL=>have:=a1.out;omega);intro h0 e4 ho hb hg hat;rw[←a2.out]at ho;have e5:=am_ (ho);replace j:=am_ (blk_grown (qk_ j) hg (Kd.R_away o.out (fun _ hk=>hk)));replace HB:=am_ (hb);clear o ho hb hg hat))
    go_roundg c4
    case measure=>have:=HK1.out;omega
    case rel=>exact⟨(e1),(wrap64 (a + 1)),qe_,H',⟨by have:=HK1.out;omega⟩,⟨ra_ e5⟩,⟨qk_ j⟩,⟨qB_⟩⟩
   refine jg_ H ?_;clear H;intro a4 H
   have a5:=am_ a4
   clear a4
   generalize D:(p++[(⟨d,g⟩:S43)])=e6 at H;replace H:=bh_ H;have a6:=am_ D.symm;clear D;have H' :=am_ H;clear H
   obtain⟨e7,e8,e9,f2⟩:=bc2_ j
   go_wp2_with (first|((with_reducible refine gate_builtin (b:= .append) (xs:= #[.tmp 28,.tmp 30]) rfl ?_);at_builtin;refine Kd.R_append k43 (w0:=w) w.heap.size rfl (.tmp 28) (.tmp 30) 67 43 (.agg #[(.int .i64 0),(.int .i64 0)]) 16 rfl Try.underlying67 info43 rfl (by decide) (by omega) u5 p (⟨d,g⟩:S43) [.int .i64 d,.int .i64 g] (fun k_=>k_≠s) (fun _=>False) rfl rfl ?aP (fun _ hk=>hk.elim) ?aF ?aO ?aB ?aS ?aL ?_;(case aP=>exact k43_mkM _ _ _ (⟨d,g⟩:S43));(case aB=>exact qB_);(case aF=>exact(fun k_ hk=>Kd.freshB (qk_ j) k_ hk));(case aO=>exact(qR_ o));(case aS=>exact(below_size qB_));(case aL=>have:=a5.out;omega);intro h1 f3 ho hb hg hat;rw[←a6.out]at ho;have f4:=am_ (ho);replace j:=am_ (blk_grown (qk_ j) hg (Kd.R_away o.out (fun _ hk=>hk)));replace HB:=am_ (hb);clear o ho hb hg hat))
   go_loopg [5,7] c4 (fun kq v5 v7 w' =>∃ (q:List (S43)) (c:Int),v7= .int .i64 c∧Aside0 (spec_l05Put.l1 kq l0 q c d g=some r)∧Aside0 (kq≤c4)∧Aside0 (Kd.R k43 43 w' w.heap.size (fun k_=>k_≠s) v5 q)∧Aside0 (w'.heap[s]? =some (.cells #[.int .i64 d,.int .i64 g] 43 (0,0)))∧Aside0 (Below w.heap.size w w'))
   case atStart=>exact⟨(e6),(0),qe_,H',⟨Nat.le_refl _⟩,⟨ra_ f4⟩,⟨qk_ j⟩,⟨qB_⟩⟩
   case round=>
    clear H' b2 e7 e8 e9 f2
    obtain⟨q,c,rfl,HA,HK2,o,j,HB⟩:=hrel
    cases gk with
    |zero=>exact absurd HA.out (by simp [spec_l05Put.l1])
    |succ d3=>
     have H:=HA.out;clear HA
     simp only[spec_l05Put.l1]at H
     refine ib_ H ?_ ?_<;>clear H<;>intro c7 H
     ·obtain rfl:=oi_ H
      go_wp2
      go_ret
      exact⟨_,qr_,by(with_reducible repeat(first|apply Kd.R_alloc|apply Kd.R_drewN|apply Kd.R_drew));exact Kd.R_mono o.out (fun _ hk=>trivial),qB_⟩
     refine ig_ H ?_;clear H;intro c8 H
     obtain⟨i2,b7,H⟩:=bs_ H
     refine id_ H ?_ ?_<;>clear H<;>rintro rfl H
     ·have H' :=am_ H;clear H
      try go_wp2
      replace o:=rd_ o;replace j:=bd_ j;replace HB:=hd_ HB
      have E:=dt_ c
      have F:=du_ c l0.length
      obtain⟨m,G,M,O⟩:=at_T43 b0.out c (ot_ E) (ot_ F)
      have b8:=O;have b9:=M;cases G
      replace M:=qx_ HB M
      replace O:=qx_ HB O
      refine start_ (n:=6) (S:=fun w' =>w'.cell? ⟨s,0,none⟩=some (.int .i64 d)∧w'.cell? ⟨s,1,none⟩=some (.int .i64 g)∧w'.cell? (m.add ((c).toNat * 2))=some (.int .i64 ((rd_T43 l0 c).f0))∧w'.cell? ⟨(m.add ((c).toNat * 2)).block,(m.add ((c).toNat * 2)).off + 1,none⟩=some (.int .i64 ((rd_T43 l0 c).f1))) (ds:=[]) (bm 6 0) (by kernel_rfl) rfl (by kernel_rfl) ⟨bl_ j 0,bl_ j 1,((qx_ HB b9).trans rfl),((qx_ HB b8).trans rfl)⟩ (fun hHeld=> ?_)
      generalize wr.drew=f7 at o j HB M O hHeld ⊢
      refine pure_ (i:=1) (N:=some 39) (v:= ?_) (a' := ?_) (bm 6 2) rfl rfl (by kernel_rfl) (fun _ _ _ h=>h) (Or.inl ⟨by rfl,?_⟩) ?_ ?_
      rotate_left
      ·intro w'
       go_simp
       with_reducible rfl
      rotate_left
      ·simp only[Act.put,sA_,sB_,sC_,i64_w,i32_w]
       rfl
      refine pure_ (i:=2) (N:=some 40) (v:= ?_) (a' := ?_) (bm 6 6) rfl rfl (by kernel_rfl) (fun _ _ _ h=>h) (Or.inl ⟨by rfl,?_⟩) ?_ ?_
      rotate_left
      ·intro w'
       go_simp
       with_reducible rfl
      rotate_left
      ·simp only[Act.put,sA_,sB_,sC_,i64_w,i32_w]
       rfl
      refine pure_ (i:=3) (N:=some 41) (v:= ?_) (a' := ?_) (bm 6 14) rfl rfl (by kernel_rfl) (fun _ _ _ h=>h) (Or.inl ⟨by rfl,?_⟩) ?_ ?_
      rotate_left
      ·intro w'
       go_simp
       with_reducible rfl
      rotate_left
      ·simp only[Act.put,sA_,sB_,sC_,i64_w,i32_w]
       rfl
      refine take_ (i:=0) (N:=some 38) (v:= ?_) (a' := ?_) (bm 6 15) rfl rfl (by kernel_rfl) (fun _ _ _ h=>h) (Or.inl ⟨by rfl,?_⟩) hHeld ?_ ?_
      rotate_left
      ·rintro w' ⟨V,X,Y,Z⟩
       go_simp
       with_reducible rfl
      rotate_left
      ·simp only[Act.put,sA_,sB_,sC_,i64_w,i32_w]
       rfl
      refine take_ (i:=4) (N:=some 42) (v:= ?_) (a' := ?_) (bm 6 31) rfl rfl (by kernel_rfl) (fun _ _ _ h=>h) (Or.inl ⟨by rfl,?_⟩) hHeld ?_ ?_
      rotate_left
      ·rintro w' ⟨V,X,Y,Z⟩
       go_simp
       with_reducible rfl
      rotate_left
      ·simp only[Act.put,sA_,sB_,sC_,i64_w,i32_w]
       rfl
      refine one_ (i:=5) (N:=some 43) (bm 6 63) rfl rfl (by kernel_rfl) (by decide) (fun K hK=> ?_)
      refine gs_ Try.func135 #[.agg #[.int .i64 d,.int .i64 g],.agg #[.int .i64 ((rd_T43 l0 c).f0),.int .i64 ((rd_T43 l0 c).f1)]] ?_
      with_reducible refine(spec_l05Less.calls d g ((rd_T43 l0 c).f0) ((rd_T43 l0 c).f1) false _ b7.out).mono ?_
      rintro e f8 ⟨rfl,hb⟩
      refine⟨_,rfl,?_⟩
      replace o:=kb_ o hb;replace j:=qbl_ j hb;replace HB:=hs_ hb;clear hb
      refine hK.out _ _ ⟨bl_ j 0,bl_ j 1,((qx_ HB b9).trans rfl),((qx_ HB b8).trans rfl)⟩ (fun hHeld=> ?_)
      clear hK K
      refine nm_ 43 ?_
      refine done_ (by kernel_rfl) ?_
      try go_wp2
      go_roundg d3
      case measure=>have:=HK1.out;have:=HK2.out;omega
      case rel=>exact⟨(q),(wrap64 (c + 1)),qe_,H',⟨by have:=HK1.out;have:=HK2.out;omega⟩,⟨ra_ o⟩,⟨qk_ j⟩,⟨qB_⟩⟩
     refine jg_ H ?_;clear H;intro c0 H
     have a7:=am_ c0
     clear c0
     generalize I:(q++[(⟨(rd_T43 l0 c).f0,(rd_T43 l0 c).f1⟩:S43)])=f9 at H;replace H:=bh_ H;have a8:=am_ I.symm;clear I;have H' :=am_ H;clear H
     try go_wp2
     replace o:=rd_ o;replace j:=bd_ j;replace HB:=hd_ HB
     have E:=dt_ c
     have F:=du_ c l0.length
     obtain⟨m,G,M,O⟩:=at_T43 b0.out c (ot_ E) (ot_ F)
     have b8:=O;have b9:=M;cases G
     replace M:=qx_ HB M
     replace O:=qx_ HB O
     refine start_ (n:=6) (S:=fun w' =>w'.cell? ⟨s,0,none⟩=some (.int .i64 d)∧w'.cell? ⟨s,1,none⟩=some (.int .i64 g)∧w'.cell? (m.add ((c).toNat * 2))=some (.int .i64 ((rd_T43 l0 c).f0))∧w'.cell? ⟨(m.add ((c).toNat * 2)).block,(m.add ((c).toNat * 2)).off + 1,none⟩=some (.int .i64 ((rd_T43 l0 c).f1))) (ds:=[]) (bm 6 0) (by kernel_rfl) rfl (by kernel_rfl) ⟨bl_ j 0,bl_ j 1,((qx_ HB b9).trans rfl),((qx_ HB b8).trans rfl)⟩ (fun hHeld=> ?_)
     generalize wr.drew=g0 at o j HB M O hHeld ⊢
     refine pure_ (i:=1) (N:=some 39) (v:= ?_) (a' := ?_) (bm 6 2) rfl rfl (by kernel_rfl) (fun _ _ _ h=>h) (Or.inl ⟨by rfl,?_⟩) ?_ ?_
     rotate_left
     ·intro w'
      go_simp
      with_reducible rfl
     rotate_left
     ·simp only[Act.put,sA_,sB_,sC_,i64_w,i32_w]
      rfl
     refine pure_ (i:=2) (N:=some 40) (v:= ?_) (a' := ?_) (bm 6 6) rfl rfl (by kernel_rfl) (fun _ _ _ h=>h) (Or.inl ⟨by rfl,?_⟩) ?_ ?_
     rotate_left
     ·intro w'
      go_simp
      with_reducible rfl
     rotate_left
     ·simp only[Act.put,sA_,sB_,sC_,i64_w,i32_w]
      rfl
     refine pure_ (i:=3) (N:=some 41) (v:= ?_) (a' := ?_) (bm 6 14) rfl rfl (by kernel_rfl) (fun _ _ _ h=>h) (Or.inl ⟨by rfl,?_⟩) ?_ ?_
     rotate_left
     ·intro w'
      go_simp
      with_reducible rfl
     rotate_left
     ·simp only[Act.put,sA_,sB_,sC_,i64_w,i32_w]
      rfl
     refine take_ (i:=0) (N:=some 38) (v:= ?_) (a' := ?_) (bm 6 15) rfl rfl (by kernel_rfl) (fun _ _ _ h=>h) (Or.inl ⟨by rfl,?_⟩) hHeld ?_ ?_
     rotate_left
     ·rintro w' ⟨V,X,Y,Z⟩
      go_simp
      with_reducible rfl
     rotate_left
     ·simp only[Act.put,sA_,sB_,sC_,i64_w,i32_w]
      rfl
     refine take_ (i:=4) (N:=some 42) (v:= ?_) (a' := ?_) (bm 6 31) rfl rfl (by kernel_rfl) (fun _ _ _ h=>h) (Or.inl ⟨by rfl,?_⟩) hHeld ?_ ?_
     rotate_left
     ·rintro w' ⟨V,X,Y,Z⟩
      go_simp
      with_reducible rfl
     rotate_left
     ·simp only[Act.put,sA_,sB_,sC_,i64_w,i32_w]
      rfl
     refine one_ (i:=5) (N:=some 43) (bm 6 63) rfl rfl (by kernel_rfl) (by decide) (fun K hK=> ?_)
     refine gs_ Try.func135 #[.agg #[.int .i64 d,.int .i64 g],.agg #[.int .i64 ((rd_T43 l0 c).f0),.int .i64 ((rd_T43 l0 c).f1)]] ?_
     with_reducible refine(spec_l05Less.calls d g ((rd_T43 l0 c).f0) ((rd_T43 l0 c).f1) true _ b7.out).mono ?_
     rintro e g1 ⟨rfl,hb⟩
     refine⟨_,rfl,?_⟩
     replace o:=kb_ o hb;replace j:=qbl_ j hb;replace HB:=hs_ hb;clear hb
     refine hK.out _ _ ⟨bl_ j 0,bl_ j 1,((qx_ HB b9).trans rfl),((qx_ HB b8).trans rfl)⟩ (fun hHeld=> ?_)
     clear hK K
     refine nm_ 43 ?_
     refine done_ (by kernel_rfl) ?_
     have c1:=dt_ c
     have c2:=du_ c l0.length
     obtain⟨a9,c3,d4,d5⟩:=at_T43 b0.out c (ot_ c1) (ot_ c2)
     obtain rfl:m=a9:=(by injection c3)
     replace d4:=qx_ HB d4
     replace d5:=qx_ HB d5
     try go_wp2_with (first|((with_reducible refine gate_builtin (b:= .append) (xs:= #[.tmp 44,.tmp 49]) rfl ?_);at_builtin;refine Kd.R_append k43 (w0:=w) w.heap.size rfl (.tmp 44) (.tmp 49) 67 43 (.agg #[(.int .i64 0),(.int .i64 0)]) 16 rfl Try.underlying67 info43 rfl (by decide) (by omega) u5 q (⟨(rd_T43 l0 c).f0,(rd_T43 l0 c).f1⟩:S43) [.int .i64 ((rd_T43 l0 c).f0),.int .i64 ((rd_T43 l0 c).f1)] (fun k_=>k_≠s) (fun _=>False) rfl rfl ?aP (fun _ hk=>hk.elim) ?aF ?aO ?aB ?aS ?aL ?_;(case aP=>exact k43_mkM _ _ _ (⟨(rd_T43 l0 c).f0,(rd_T43 l0 c).f1⟩:S43));(case aB=>exact qB_);(case aF=>exact(fun k_ hk=>Kd.freshB (qk_ j) k_ hk));(case aO=>exact(qR_ o));(case aS=>exact(below_size qB_));(case aL=>have:=a7.out;omega);intro i3 g2 ho hb hg hat;rw[←a8.out]at ho;have g3:=am_ (ho);replace j:=am_ (blk_grown (qk_ j) hg (Kd.R_away o.out (fun _ hk=>hk)));replace HB:=am_ (hb);clear o ho hb hg hat))
     go_roundg d3
     case measure=>have:=HK1.out;have:=HK2.out;omega
     case rel=>exact⟨(f9),(wrap64 (c + 1)),qe_,H',⟨by have:=HK1.out;have:=HK2.out;omega⟩,⟨ra_ g3⟩,⟨qk_ j⟩,⟨qB_⟩⟩
end Go.Proofs.Ytbkklafkoegdpaa.QFnLevels

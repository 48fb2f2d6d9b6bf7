import Derived.Test.YtbkklafkoegdpaaQFnLevelsx12
import Derived.Test.YtbkklafkoegdpaaQFnLevelsx28
namespace Go.Proofs.Ytbkklafkoegdpaa.QFnLevels
open Go.RowKit Go.Proofs.YtbkklafkoegdpaaW.PrintWords Go.Proofs.YtbkklafkoegdpaaW.PrintLast Go.Proofs.YtbkklafkoegdpaaW.PrintMore
set_option maxHeartbeats 8000000
set_option maxRecDepth 100000
set_option linter.unusedVariables false
set_option linter.unusedSimpArgs false
mutual
def laws_parts.l0:Nat→List Int→Int→Int→List (List Int)→Option (List Int)
  |0,_,_,_,_=>none
  |k + 1,x3,x4,x722000,x722001=>if x4<(x722001.length:Int) then (if 0≤x4 then ((spec_VertsOf.f k (rd_L5 x722001 x4)).bind fun t726=>(laws_parts.l1 k x3 x4 t726 0 x722000 x722001)) else (none)) else (some x3)
def laws_parts.l1:Nat→List Int→Int→List Int→Int→Int→List (List Int)→Option (List Int)
  |0,_,_,_,_,_,_=>none
  |k + 1,x3,x4,x5,x6,x722000,x722001=>if x6<(x5.length:Int) then (if 0≤x6 then (if (rd x5 x6)<x722000 then (if 0<(x5.length:Int) then (if 0≤(rd x5 x6) then (if (rd x5 x6)<(x3.length:Int) then (laws_parts.l1 k (x3.set ((rd x5 x6):Int).toNat (rd x5 0)) x4 x5 (wrap64 (x6 + 1)) x722000 x722001) else (none)) else (none)) else (none)) else (laws_parts.l1 k x3 x4 x5 (wrap64 (x6 + 1)) x722000 x722001)) else (none)) else (laws_parts.l0 k x3 (wrap64 (x4 + 1)) x722000 x722001)
end
def laws_parts.f (k:Nat) (a0_0:Int) (l0_1:List (List Int)):Option (List Int):=if 0≤a0_0 then (if (a0_0:Int).toNat≤35184372088832 then (laws_parts.l0 k (List.replicate (a0_0:Int).toNat 0) 0 a0_0 l0_1) else (none)) else (none)
def laws_parts.T10:Bool × List (List Nat × List Nat):=(true,[([],[]),([],[]),([],[]),([1,2],[1,2]),([3],[3]),([],[]),([5],[5]),([6],[6]),([0,4,0,1,2,3,4,5,6,7],[0,4]),([8,7,0,1,2,3,4,5,6,7],[7,8])])
def laws_parts.B10:List Nat:=[0,0,0,6,14,0,32,96,255,511]
theorem laws_parts.tab10:rtab .any (opsOf Try.f52 10)=laws_parts.T10:=by kernel_rfl
theorem laws_parts.bits10:waitsOk laws_parts.T10.2 laws_parts.B10=true:=by kernel_rfl
theorem laws_parts.calls (k:Nat) (d:Int) (z:Option Addr) (m:Nat) (c:List (List Int)) (r:List Int) (w:World) (hr0_1:Kd.C (Kd.slice 3 (Kd.int .i64)) w z c.length c) (hc0_1:c.length≤m) (h:laws_parts.f k d c=some r):
  Calls Try.prog 52 #[.agg #[.int .i64 d,.slice z c.length m]] w fun e w' =>∃ b1:Value,e= .returned (b1)∧Kd.R (Kd.int .i64) 3 w' w.heap.size (fun _=>True) b1 r∧Below w.heap.size w w' :=by
 have hu39:=Try.underlying39
 have a4:=am_ hr0_1
 have c6:=am_ hc0_1
 clear hr0_1 hc0_1
 have HB:=am_ (Below.refl w.heap.size w)
 rw[laws_parts.f]at h;have H:=h;clear h
 refine jg_ H ?_;clear H;intro b2 H
 have V:=eq_true b2
 have X:=decide_eq_true b2
 clear b2
 refine jg_ H ?_;clear H;intro b3 H
 have Y:=eq_true b3
 have Z:=decide_eq_true b3
 clear b3
 generalize B:(List.replicate (d:Int).toNat 0:List Int)=f4 at H;replace H:=bh_ H;have D:=am_ B.symm;clear B;have H' :=am_ H;clear H
 go_enter Try.func52,Try.ntmps52
 go_wp2_with (first|((with_reducible refine gd_ 1 ?_);refine by_ 1 (cs:= #[.int .i64 d,.slice z c.length m]) (t:=39) ?_;intro b0 hg h0 l hb;have h1:=gw_ hg;replace HB:=hs_ hb;clear hb hg;obtain⟨e3,e4,e5,e6⟩:=bc2_ l)|((with_reducible refine gd_ 9 ?_);refine Kd.R_make (Kd.int .i64) _ 3 rfl (N:=9) rfl 51 _ _ rfl d rfl rfl Try.underlying51 (.int .i64 0) 8 info3 rfl (by decide) (by omega) 0 (ok:=fun _=>True) (okp:=fun _=>True) rfl (fun _ hk=>hk) trivial (of_decide_eq_true qa_) (Nat.le_trans (Nat.mul_le_mul_right _ (of_decide_eq_true qa_:d.toNat≤35184372088832)) (by omega)) (Below.refl _ _) (Nat.le_refl _) ?_;intro c7 h2 ho7 hb hg_ hnew_;clear hg_ hnew_;(first|rw[←D.out]at ho7|(simp only[Int.reduceToNat]at ho7;rw[←D.out]at ho7));have f5:=am_ (Kd.R_lower ho7 (below_size qB_));replace l:=qbl_ l hb;replace HB:=hs_ hb;clear hb ho7))
 go_loopg [4] k (fun kq v4 w' =>∃ (A:List Int) (g:Int),v4= .int .i64 g∧Aside0 (laws_parts.l0 kq A g d c=some r)∧Aside0 (kq≤k)∧Aside0 (Kd.R (Kd.int .i64) 3 w' w.heap.size (fun _=>True) c7 A)∧Aside0 (w'.heap[b0]? =some (.cells #[.int .i64 d,(.slice z c.length m)] 39 (0,0)))∧Aside0 (Below w.heap.size w w'))
 case atStart=>exact⟨(f4),(0),qe_,H',⟨Nat.le_refl _⟩,⟨ra_ f5⟩,⟨qk_ l⟩,⟨qB_⟩⟩
 case round=>
  clear H' V X Y Z e3 e4 e5 e6
  obtain⟨A,g,rfl,HA,HK1,s,l,HB⟩:=hrel
  cases gk with
  |zero=>exact absurd HA.out (by simp [laws_parts.l0])
  |succ c8=>
   have H:=HA.out;clear HA
   simp only[laws_parts.l0]at H
   refine ib_ H ?_ ?_<;>clear H<;>intro b4 H
   ·obtain rfl:=oi_ H
    obtain⟨h3,h4,h5,h6⟩:=bc2_ l
    go_wp2
    go_ret
    exact⟨_,qr_,qR_ s,qB_⟩
   refine ig_ H ?_;clear H;intro b5 H
   obtain⟨q,c9,H⟩:=bs_ H
   have H' :=am_ H;clear H
   obtain⟨f7,f8,f9,g0⟩:=bc2_ l
   have a0:=dt_ g
   have a1:=du_ g c.length
   obtain⟨y,A725_0,c725_0,b6,d0,x,hi725_0⟩:=at_L5 a4.out g (ot_ a0) (ot_ a1)
   cases b6
   replace d0:=qx_ HB d0
   have E:=am_ hi725_0
   have F:=am_ x
   clear hi725_0 x
   go_wp2_with (first|((with_reducible refine gc_ 59 ?_);refine gl_ (some 22) Try.func59 #[.slice A725_0 (rd_L5 c g).length c725_0] ?_;(with_reducible refine(spec_VertsOf.calls c8 _ _ (rd_L5 c g) q _ ?_ ?_ c9.out).mono ?_);exact qC_ E HB;exact F.out;rintro e g1 ⟨e8,rfl,ho0,hb⟩;refine⟨_,rfl,?_⟩;have g2:=am_ (Kd.R_lower (Kd.R_new' ho0 (Kd.R_lt (qR_ s))) (below_size qB_));replace s:=ke_ s ho0 hb;replace l:=qbl_ l hb;replace HB:=hs_ hb;clear hb ho0))
   go_loopg [6] c8 (fun kq v6 w' =>∃ (o:List Int) (a:Int),v6= .int .i64 a∧Aside0 (laws_parts.l1 kq o g q a d c=some r)∧Aside0 (kq≤c8)∧Aside0 (Kd.R (Kd.int .i64) 3 w' w.heap.size (fun k_=>some k_≠(e8:Value).ownBlock) c7 o)∧Aside0 (Kd.R (Kd.int .i64) 3 w' w.heap.size (fun k_=>some k_≠(c7:Value).ownBlock) e8 q)∧Aside0 (w'.heap[b0]? =some (.cells #[.int .i64 d,(.slice (some y) c.length m)] 39 (0,0)))∧Aside0 (Below w.heap.size w w'))
   case atStart=>exact⟨(A),(0),qe_,H',⟨Nat.le_refl _⟩,⟨by(with_reducible repeat(first|apply Kd.R_alloc|apply Kd.R_drewN|apply Kd.R_drew));exact Kd.R_mono s.out (fun _ hk=>hk.2)⟩,⟨by(with_reducible repeat(first|apply Kd.R_alloc|apply Kd.R_drewN|apply Kd.R_drew));exact Kd.R_mono g2.out (fun _ hk=>hk.2)⟩,⟨qk_ l⟩,⟨qB_⟩⟩
   case round=>
    clear H' b4 b5 f7 f8 f9 g0 d0 a0 a1
    obtain⟨o,a,rfl,HA,HK2,s,u,l,HB⟩:=hrel
    cases gk with
    |zero=>exact absurd HA.out (by simp [laws_parts.l1])
    |succ d1=>
     have H:=HA.out;clear HA
     simp only[laws_parts.l1]at H
     refine ib_ H ?_ ?_<;>clear H<;>intro d2 H
     ·have H' :=am_ H;clear H
      obtain⟨i3,i4,g3⟩:=Kd.R_slice u.out
      subst g3
      go_wp2
      go_roundg d1
      case measure=>have:=HK1.out;have:=HK2.out;omega
      case rel=>exact⟨(o),(wrap64 (g + 1)),qe_,H',⟨by have:=HK1.out;have:=HK2.out;omega⟩,⟨by(with_reducible repeat(first|apply Kd.R_alloc|apply Kd.R_drewN|apply Kd.R_drew));exact Kd.R_mono s.out (fun _ hk=>trivial)⟩,⟨qk_ l⟩,⟨qB_⟩⟩
     refine ig_ H ?_;clear H;intro d3 H
     refine ib_ H ?_ ?_<;>clear H<;>intro d4 H
     ·have H' :=am_ H;clear H
      obtain⟨i5,i6,g4⟩:=Kd.R_slice u.out
      subst g4
      try go_wp2
      replace s:=rd_ s;replace u:=rd_ u;replace l:=bd_ l;replace HB:=hd_ HB
      have G:=dt_ a
      have I:=du_ a q.length
      obtain⟨j,J,b7⟩:=Kd.at_int (Kd.R_reads' u.out).2.2 a (ot_ G) (ot_ I)
      cases J
      refine start_ (n:=7) (S:=fun w' =>w'.cell? ⟨b0,0,none⟩=some (.int .i64 d)∧w'.cell? ⟨b0,1,none⟩=some (.slice (some y) c.length m)∧w'.cell? (j.add (a).toNat)=some (.int .i64 (rd q a))) (ds:=[]) (bm 7 0) (by kernel_rfl) rfl (by kernel_rfl) ⟨bl_ l 0,bl_ l 1,b7⟩ (fun hHeld=> ?_)
      generalize wr.drew=g5 at s u l HB b7 hHeld ⊢
      refine pure_ (i:=0) (N:=some 29) (v:= ?_) (a' := ?_) (bm 7 1) rfl rfl (by kernel_rfl) (fun _ _ _ h=>h) (Or.inl ⟨by rfl,?_⟩) ?_ ?_
      rotate_left
      ·intro w'
       go_simp
       with_reducible rfl
      rotate_left
      ·simp only[Act.put,sA_,sB_,sC_,i64_w,i32_w]
       rfl
      refine pure_ (i:=1) (N:=some 30) (v:= ?_) (a' := ?_) (bm 7 3) rfl rfl (by kernel_rfl) (fun _ _ _ h=>h) (Or.inl ⟨by rfl,?_⟩) ?_ ?_
      rotate_left
      ·intro w'
       go_simp
       with_reducible rfl
      rotate_left
      ·simp only[Act.put,sA_,sB_,sC_,i64_w,i32_w]
       rfl
      refine pure_ (i:=2) (N:=some 31) (v:= ?_) (a' := ?_) (bm 7 7) rfl rfl (by kernel_rfl) (fun _ _ _ h=>h) (Or.inl ⟨by rfl,?_⟩) ?_ ?_
      rotate_left
      ·intro w'
       go_simp
       with_reducible rfl
      rotate_left
      ·simp only[Act.put,sA_,sB_,sC_,i64_w,i32_w]
       rfl
      refine pure_ (i:=4) (N:=some 33) (v:= ?_) (a' := ?_) (bm 7 23) rfl rfl (by kernel_rfl) (fun _ _ _ h=>h) (Or.inl ⟨by rfl,?_⟩) ?_ ?_
      rotate_left
      ·intro w'
       go_simp
       with_reducible rfl
      rotate_left
      ·simp only[Act.put,sA_,sB_,sC_,i64_w,i32_w]
       rfl
      refine take_ (i:=3) (N:=some 32) (v:= ?_) (a' := ?_) (bm 7 31) rfl rfl (by kernel_rfl) (fun _ _ _ h=>h) (Or.inl ⟨by rfl,?_⟩) hHeld ?_ ?_
      rotate_left
      ·rintro w' ⟨d5,d6,d7⟩
       go_simp
       with_reducible rfl
      rotate_left
      ·simp only[Act.put,sA_,sB_,sC_,i64_w,i32_w]
       rfl
      refine take_ (i:=5) (N:=some 34) (v:= ?_) (a' := ?_) (bm 7 63) rfl rfl (by kernel_rfl) (fun _ _ _ h=>h) (Or.inl ⟨by rfl,?_⟩) hHeld ?_ ?_
      rotate_left
      ·rintro w' ⟨d5,d6,d7⟩
       go_simp
       with_reducible rfl
      rotate_left
      ·simp only[Act.put,sA_,sB_,sC_,i64_w,i32_w]
       rfl
      refine pure_ (i:=6) (N:=some 35) (v:= ?_) (a' := ?_) (bm 7 127) rfl rfl (by kernel_rfl) (fun _ _ _ h=>h) (Or.inl ⟨by rfl,?_⟩) ?_ ?_
      rotate_left
      ·intro w'
       go_simp
       with_reducible rfl
      rotate_left
      ·simp only[Act.put,sA_,sB_,sC_,i64_w,i32_w]
       rfl
      refine done_ (by kernel_rfl) ?_
      try go_wp2
      go_roundg d1
      case measure=>have:=HK1.out;have:=HK2.out;omega
      case rel=>exact⟨(o),(wrap64 (a + 1)),qe_,H',⟨by have:=HK1.out;have:=HK2.out;omega⟩,⟨ra_ s⟩,⟨ra_ u⟩,⟨qk_ l⟩,⟨qB_⟩⟩
     refine jg_ H ?_;clear H;intro b8 H
     have d8:=decide_eq_true b8
     have d9:decide (0<q.length)=true:=decide_eq_true (by omega)
     clear b8
     refine ig_ H ?_;clear H;intro e0 H
     refine ig_ H ?_;clear H;intro e1 H
     generalize L:(o.set ((rd q a):Int).toNat (rd q 0))=g6 at H;replace H:=bh_ H;have a5:=am_ L.symm;clear L;have H' :=am_ H;clear H
     obtain⟨i7,i8,g7⟩:=Kd.R_slice u.out
     subst g7
     try go_wp2
     replace s:=rd_ s;replace u:=rd_ u;replace l:=bd_ l;replace HB:=hd_ HB
     have G:=dt_ a
     have I:=du_ a q.length
     obtain⟨j,J,b7⟩:=Kd.at_int (Kd.R_reads' u.out).2.2 a (ot_ G) (ot_ I)
     cases J
     refine start_ (n:=7) (S:=fun w' =>w'.cell? ⟨b0,0,none⟩=some (.int .i64 d)∧w'.cell? ⟨b0,1,none⟩=some (.slice (some y) c.length m)∧w'.cell? (j.add (a).toNat)=some (.int .i64 (rd q a))) (ds:=[]) (bm 7 0) (by kernel_rfl) rfl (by kernel_rfl) ⟨bl_ l 0,bl_ l 1,b7⟩ (fun hHeld=> ?_)
     generalize wr.drew=e2 at s u l HB b7 hHeld ⊢
     refine pure_ (i:=0) (N:=some 29) (v:= ?_) (a' := ?_) (bm 7 1) rfl rfl (by kernel_rfl) (fun _ _ _ h=>h) (Or.inl ⟨by rfl,?_⟩) ?_ ?_
     rotate_left
     ·intro w'
      go_simp
      with_reducible rfl
     rotate_left
     ·simp only[Act.put,sA_,sB_,sC_,i64_w,i32_w]
      rfl
     refine pure_ (i:=1) (N:=some 30) (v:= ?_) (a' := ?_) (bm 7 3) rfl rfl (by kernel_rfl) (fun _ _ _ h=>h) (Or.inl ⟨by rfl,?_⟩) ?_ ?_
     rotate_left
     ·intro w'
      go_simp
      with_reducible rfl
     rotate_left
     ·simp only[Act.put,sA_,sB_,sC_,i64_w,i32_w]
      rfl
     refine pure_ (i:=2) (N:=some 31) (v:= ?_) (a' := ?_) (bm 7 7) rfl rfl (by kernel_rfl) (fun _ _ _ h=>h) (Or.inl ⟨by rfl,?_⟩) ?_ ?_
     rotate_left
     ·intro w'
      go_simp
      with_reducible rfl
     rotate_left
     ·simp only[Act.put,sA_,sB_,sC_,i64_w,i32_w]
      rfl
     refine pure_ (i:=4) (N:=some 33) (v:= ?_) (a' := ?_) (bm 7 23) rfl rfl (by kernel_rfl) (fun _ _ _ h=>h) (Or.inl ⟨by rfl,?_⟩) ?_ ?_
     rotate_left
     ·intro w'
      go_simp
      with_reducible rfl
     rotate_left
     ·simp only[Act.put,sA_,sB_,sC_,i64_w,i32_w]
      rfl
     refine take_ (i:=3) (N:=some 32) (v:= ?_) (a' := ?_) (bm 7 31) rfl rfl (by kernel_rfl) (fun _ _ _ h=>h) (Or.inl ⟨by rfl,?_⟩) hHeld ?_ ?_
     rotate_left
     ·rintro w' ⟨d5,d6,d7⟩
      go_simp
      with_reducible rfl
     rotate_left
     ·simp only[Act.put,sA_,sB_,sC_,i64_w,i32_w]
      rfl
     refine take_ (i:=5) (N:=some 34) (v:= ?_) (a' := ?_) (bm 7 63) rfl rfl (by kernel_rfl) (fun _ _ _ h=>h) (Or.inl ⟨by rfl,?_⟩) hHeld ?_ ?_
     rotate_left
     ·rintro w' ⟨d5,d6,d7⟩
      go_simp
      with_reducible rfl
     rotate_left
     ·simp only[Act.put,sA_,sB_,sC_,i64_w,i32_w]
      rfl
     refine pure_ (i:=6) (N:=some 35) (v:= ?_) (a' := ?_) (bm 7 127) rfl rfl (by kernel_rfl) (fun _ _ _ h=>h) (Or.inl ⟨by rfl,?_⟩) ?_ ?_
     rotate_left
     ·intro w'
      go_simp
      with_reducible rfl
     rotate_left
     ·simp only[Act.put,sA_,sB_,sC_,i64_w,i32_w]
      rfl
     refine done_ (by kernel_rfl) ?_
     try go_wp2
     replace s:=rd_ s;replace u:=rd_ u;replace l:=bd_ l;replace HB:=hd_ HB
     have b9:=dt_ a
     have c0:=du_ a q.length
     obtain⟨a6,c1,e9⟩:=Kd.at_int (Kd.R_reads' u.out).2.2 a (ot_ b9) (ot_ c0)
     obtain rfl:j=a6:=(by injection c1)
     have M:0≤(0:Int):=(by omega)
     have O:=dl_ 0 q.length
     obtain⟨a7,c2,c5⟩:=Kd.at_int (Kd.R_reads' u.out).2.2 0 M O
     obtain rfl:j=a7:=(by injection c2)
     have qi731:(0<q.length)=True:=eq_true (by omega)
     rw[show((0:Int)).toNat=0 from rfl]at c5
     rw[Addr.add_zero']at c5
     replace M:=eq_true M;replace O:=eq_true O
     have a8:=dp_ ((rd q a))
     have a9:((rd q a):Int)<((o.length:Int):Int):=of_decide_eq_true qa_
     obtain⟨a2,i9,f0,f1,c3,f2,a3⟩:=Kd.R_form s.out (by omega)
     (first|cases f0|(injection f0 with ea_ en_ ec_;(first|subst ea_|(injection ea_ with ea_;subst ea_));subst ec_;clear en_))
     have f3:=am_ f1
     have c4:=am_ a3
     clear f1 c3 a3
     obtain⟨g8,U⟩:=Kd.R_celln 0 s.out ((rd q a):Int) a8 a9
     replace a8:=eq_true a8;replace a9:=eq_true a9
     have T:=Kd.R_putn s.out ((rd q a):Int) (rd q 0)
     rw[←a5.out]at T
     have HQ23:=am_ T
     clear T
     refine start_ (n:=10) (S:=fun w' =>w'.cell? (j.add (a).toNat)=some (.int .i64 (rd q a))∧w'.cell? j=some (.int .i64 (rd q 0))) (ds:=[9]) (bm 10 0) (by kernel_rfl) rfl (by kernel_rfl) ⟨e9,c5⟩ (fun hHeld=> ?_);refine with_tabW laws_parts.tab10 laws_parts.bits10 (fun HT_ HW_=> ?_)
     generalize e2.drew=g9 at s u l HB c4 HQ23 U g8 e9 c5 hHeld ⊢
     refine pz_ 0 36 10 1 ?_;refine pz_ 1 37 10 3 ?_;refine pz_ 2 38 10 7 ?_;refine pz_ 3 39 10 15 ?_;refine pz_ 5 41 10 47 ?_;refine pz_ 6 42 10 111 ?_;refine tz2_ 4 40 10 127 ?_;refine tz2_ 7 43 10 255 ?_;refine pz_ 8 44 10 511 ?_
     refine last_ (i:=9) (N:=none) (bm 10 1023) rfl rfl (one_of HT_.out (by kernel_rfl)) (by decide) (fun K hK=> ?_)
     refine skip_ (w1:= ?_) (by rfl) rfl ?_ ?_
     rotate_left
     ·go_simp
      rfl
     refine hK.out _ _ ?_
     clear hK K
     refine done_ (done_of HT_.out (by kernel_rfl)) ?_
     try go_wp2
     go_roundg d1
     case measure=>have:=HK1.out;have:=HK2.out;omega
     case rel=>exact⟨(g6),(wrap64 (a + 1)),qe_,H',⟨by have:=HK1.out;have:=HK2.out;omega⟩,⟨qR_ HQ23⟩,⟨by(with_reducible repeat(first|apply Kd.R_alloc|apply Kd.R_drewN|apply Kd.R_drew));exact Kd.R_mono (Kd.R_far (p:=⟨a2,((rd q a):Int).toNat,none⟩) (Kd.R_mono u.out (fun k_ hk=>(⟨hk,fun e_=>hk (by rw[e_];rfl)⟩:_∧k_≠a2))) (fun _ hk=>hk.2) (.int .i64 (rd q 0))) (fun _ hk=>hk.1)⟩,⟨by(with_reducible repeat(first|refine blk_drewN ?_ _|refine blk_drew ?_|refine blk_alloc ?_ _));refine blk_far ?_ (by have h_:=Kd.R_ne s.out l.out (by decide);intro e_;exact h_ (by rw[e_];rfl)) _;exact qf_ l⟩,⟨qB_⟩⟩
def impl_VertsOf.l0:Nat→List Int→List Int→Int→Int→Option (List Int)
  |0,_,_,_,_=>none
  |k + 1,x3,x6,x7,x8=>if x8<x7 then (if 0≤x8 then (if x8<(x6.length:Int) then ((impl_with.f k x3 (rd x6 x8)).bind fun t734=>(impl_VertsOf.l0 k t734 x6 x7 (wrap64 (x8 + 1)))) else (none)) else (none)) else (some x3)
def impl_VertsOf.f (k:Nat) (l0:List Int):Option (List Int):=impl_VertsOf.l0 k ([]:List Int) l0 (l0.length:Int) 0
theorem impl_VertsOf.calls (k:Nat) (p:Option Addr) (q:Nat) (l0:List Int) (r:List Int) (w:World) (hr0:Kd.C (Kd.int .i64) w p l0.length l0) (hc0:l0.length≤q) (h:impl_VertsOf.f k l0=some r):
  Calls Try.prog 106 #[.slice p l0.length q] w fun e w' =>∃ d:Value,e= .returned (d)∧Kd.R (Kd.int .i64) 3 w' w.heap.size (fun _=>True) d r∧Below w.heap.size w w' :=by
 have z:=am_ hr0
 have E:=am_ hc0
 clear hr0 hc0
 have HB:=am_ (Below.refl w.heap.size w)
 rw[impl_VertsOf.f]at h;have H:=h;clear h;have H' :=am_ H;clear H
 go_enter Try.func106,Try.ntmps106
 go_wp2
 go_loopg [3,8] k (fun kq v3 v8 w' =>∃ (c:List Int) (a:Int),v8= .int .i64 a∧Aside0 (impl_VertsOf.l0 kq c l0 (l0.length:Int) a=some r)∧Aside0 (kq≤k)∧Aside0 (Kd.R (Kd.int .i64) 3 w' w.heap.size (fun _=>True) v3 c)∧Aside0 (Below w.heap.size w w'))
 case atStart=>exact⟨(([]:List Int)),(0),qe_,H',⟨Nat.le_refl _⟩,⟨by first|exact Kd.R_nil _ _ _ _ _|exact Kd.N_nil _ _ _ _ _|exact Kd.V_nil _ _ _ _ _|exact Kd.Q_nil _ _ _ _ _|exact Kd.S_nil _ _ _ _ _⟩,⟨qB_⟩⟩
 case round=>
  clear H'
  obtain⟨c,a,rfl,HA,HK1,l,HB⟩:=hrel
  cases gk with
  |zero=>exact absurd HA.out (by simp [impl_VertsOf.l0])
  |succ s=>
   have H:=HA.out;clear HA
   simp only[impl_VertsOf.l0]at H
   refine ib_ H ?_ ?_<;>clear H<;>intro t H
   ·obtain rfl:=oi_ H
    go_wp2
    go_ret
    exact⟨_,qr_,qR_ l,qB_⟩
   refine ig_ H ?_;clear H;intro u H
   refine ig_ H ?_;clear H;intro v H
   obtain⟨x,A,H⟩:=bs_ H
   have H' :=am_ H;clear H
   have g:=dt_ a
   have i:=du_ a l0.length
   obtain⟨m,j,y⟩:=Kd.at_int z.out a (ot_ g) (ot_ i)
   cases j
   replace y:=qx_ HB y
   obtain⟨n,o,B⟩:=Kd.R_slice l.out
   subst B
   go_wp2_with (first|((with_reducible refine gc_ 133 ?_);refine gl_ (some 14) Try.func133 #[.slice n c.length o,.int .i64 (rd l0 a)] ?_;(with_reducible refine(impl_with.calls s (fun k_=>some k_=(.slice n c.length o:Value).ownBlock) (.slice n c.length o) c (rd l0 a) x w _ ?side1 ?side2 A.out).mono ?_);(case side1=>exact qB_);(case side2=>exact Kd.R_tight rfl l.out);rintro e G ⟨I,rfl,ho0,hb,hkp⟩;refine⟨_,rfl,?_⟩;have D:=am_ (Kd.R_mono (ok' :=fun k_=>True) ho0 (fun k_ hk_=>trivial));replace HB:=am_ (hb);clear l hb hkp ho0))
   go_roundg s
   case measure=>have:=HK1.out;omega
   case rel=>exact⟨(x),(wrap64 (a + 1)),qe_,H',⟨by have:=HK1.out;omega⟩,⟨ra_ D⟩,⟨qB_⟩⟩
def impl_hasInt.l0:Nat→Int→List Int→Int→Int→Option (Bool)
  |0,_,_,_,_=>none
  |k + 1,x1,x7,x8,x9=>if x9<x8 then (if 0≤x9 then (if x9<(x7.length:Int) then (if (rd x7 x9)=x1 then (some true) else (impl_hasInt.l0 k x1 x7 x8 (wrap64 (x9 + 1)))) else (none)) else (none)) else (some false)
def impl_hasInt.f (k:Nat) (l0:List Int) (a1:Int):Option (Bool):=impl_hasInt.l0 k a1 l0 (l0.length:Int) 0
theorem impl_hasInt.calls (k:Nat) (o:Option Addr) (p:Nat) (l0:List Int) (i:Int) (r:Bool) (w:World) (hr0:Kd.C (Kd.int .i64) w o l0.length l0) (hc0:l0.length≤p) (h:impl_hasInt.f k l0 i=some r):
  Calls Try.prog 120 #[.slice o l0.length p,.int .i64 i] w fun e w' =>e= .returned (.bool r)∧Drawn0 w w' :=by
 have q:=am_ hr0
 have y:=am_ hc0
 clear hr0 hc0
 rw[impl_hasInt.f]at h;have H:=h;clear h;have H' :=am_ H;clear H
 go_enter Try.func120,Try.ntmps120
 go_wp2
 go_loopg [9] k (fun kq v9 w' =>∃ (a:Int),v9= .int .i64 a∧Aside0 (impl_hasInt.l0 kq i l0 (l0.length:Int) a=some r)∧Aside0 (kq≤k)∧Drawn0 w w')
 case atStart=>exact⟨(0),qe_,H',⟨Nat.le_refl _⟩,by repeat(first|exact Drawn0.refl _|apply Drawn0.step)⟩
 case round=>
  clear H'
  obtain⟨a,rfl,HA,HK1,⟨B,rfl⟩⟩:=hrel
  cases gk with
  |zero=>exact absurd HA.out (by simp [impl_hasInt.l0])
  |succ v=>
   have H:=HA.out;clear HA
   simp only[impl_hasInt.l0]at H
   refine ib_ H ?_ ?_<;>clear H<;>intro s H
   ·obtain rfl:=oi_ H
    go_wp2
    go_ret
    exact⟨by first|rfl|(simp;done)|(simp [*];done),by repeat(first|exact Drawn0.refl _|apply Drawn0.step)⟩
   refine ig_ H ?_;clear H;intro t H
   refine ig_ H ?_;clear H;intro u H
   refine jc_ H ?_ ?_<;>clear H<;>intro l H
   ·have m:((rd l0 a)==i)=true:=beq_iff_eq.mpr l
    have n:((rd l0 a) != i)=false:=bne_eq_false_iff_eq.mpr l
    clear l
    obtain rfl:=oi_ H
    have c:=dt_ a
    have d:=du_ a l0.length
    obtain⟨j,g,x⟩:=Kd.at_int q.out a (ot_ c) (ot_ d)
    cases g
    go_wp2
    go_ret
    exact⟨by first|rfl|(simp;done)|(simp [*];done),by repeat(first|exact Drawn0.refl _|apply Drawn0.step)⟩
   have m:((rd l0 a)==i)=false:=beq_eq_false_iff_ne.mpr l
   have n:((rd l0 a) != i)=true:=bne_iff_ne.mpr l
   have H' :=am_ H;clear H
   have c:=dt_ a
   have d:=du_ a l0.length
   obtain⟨j,g,x⟩:=Kd.at_int q.out a (ot_ c) (ot_ d)
   cases g
   go_wp2
   go_roundg v
   case measure=>have:=HK1.out;omega
   case rel=>exact⟨(wrap64 (a + 1)),qe_,H',⟨by have:=HK1.out;omega⟩,by repeat(first|exact Drawn0.refl _|apply Drawn0.step)⟩
end Go.Proofs.Ytbkklafkoegdpaa.QFnLevels

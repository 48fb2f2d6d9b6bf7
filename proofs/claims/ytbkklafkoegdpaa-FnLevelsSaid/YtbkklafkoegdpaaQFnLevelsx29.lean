import Derived.Test.YtbkklafkoegdpaaQFnLevelsx28
namespace Go.Proofs.Ytbkklafkoegdpaa.QFnLevels
open Go.RowKit Go.Proofs.YtbkklafkoegdpaaW.PrintWords Go.Proofs.YtbkklafkoegdpaaW.PrintLast Go.Proofs.YtbkklafkoegdpaaW.PrintMore
set_option maxHeartbeats 8000000
set_option maxRecDepth 100000
set_option linter.unusedVariables false
set_option linter.unusedSimpArgs false
mutual
def impl_walk.l0:Nat→List (S43)→Int→Int→List Int→List (S43)→Int→Int→Option (List Int)
  |0,_,_,_,_,_,_,_=>none
  |k + 1,x0,x1,x2,x7,x13,x14,x15=>if x15<x14 then (if 0≤x15 then (if x15<(x13.length:Int) then (if ((rd_T43 x13 x15).f0)=x1 then (impl_walk.j1 k x0 x1 x2 x7 x13 x14 x15 (((rd_T43 x13 x15).f1) != x2) ((rd_T43 x13 x15).f0) ((rd_T43 x13 x15).f1)) else (impl_walk.j1 k x0 x1 x2 x7 x13 x14 x15 false ((rd_T43 x13 x15).f0) ((rd_T43 x13 x15).f1))) else (none)) else (none)) else (impl_walk.l1 k x0 x1 (([x1]:List Int)) x7 (x7.length:Int) 0)
def impl_walk.j1:Nat→List (S43)→Int→Int→List Int→List (S43)→Int→Int→Bool→Int→Int→Option (List Int)
  |0,_,_,_,_,_,_,_,_,_,_=>none
  |k + 1,x0,x1,x2,x7,x13,x14,x15,x28,x675000,x675001=>if x28=true then ((impl_with.f k x7 x675001).bind fun t675=>(if x675001=x1 then (if x675000=x2 then (impl_walk.l0 k x0 x1 x2 t675 x13 x14 (wrap64 (x15 + 1))) else ((impl_with.f k t675 x675000).bind fun t678=>(impl_walk.l0 k x0 x1 x2 t678 x13 x14 (wrap64 (x15 + 1))))) else (impl_walk.l0 k x0 x1 x2 t675 x13 x14 (wrap64 (x15 + 1))))) else (if x675001=x1 then (if x675000=x2 then (impl_walk.l0 k x0 x1 x2 x7 x13 x14 (wrap64 (x15 + 1))) else ((impl_with.f k x7 x675000).bind fun t681=>(impl_walk.l0 k x0 x1 x2 t681 x13 x14 (wrap64 (x15 + 1))))) else (impl_walk.l0 k x0 x1 x2 x7 x13 x14 (wrap64 (x15 + 1))))
def impl_walk.l1:Nat→List (S43)→Int→List Int→List Int→Int→Int→Option (List Int)
  |0,_,_,_,_,_,_=>none
  |k + 1,x0,x1,x10,x50,x51,x52=>if x52<x51 then (if 0≤x52 then (if x52<(x50.length:Int) then ((impl_walk.f k x0 (rd x50 x52) x1).bind fun t688=>(if x10.length + t688.length<17592186044416 then ((some (x10++t688:List Int)).bind fun y691=>(if y691.length<17592186044416 then (impl_walk.l1 k x0 x1 (y691++[x1]) x50 x51 (wrap64 (x52 + 1))) else (none))) else (none))) else (none)) else (none)) else (some x10)
def impl_walk.f:Nat→List (S43)→Int→Int→Option (List Int)
  |0,_,_,_=>none
  |k + 1,l0,a1,a2=>impl_walk.l0 k l0 a1 a2 ([]:List Int) l0 (l0.length:Int) 0
end
theorem impl_walk.calls (k:Nat):∀ (c3:Option Addr) (c4:Nat) (l0:List (S43)) (j:Int) (u:Int) (r:List Int) (w:World) (hr0:Kd.C k43 w c3 l0.length l0) (hc0:l0.length≤c4) (h:impl_walk.f k l0 j u=some r),
  Calls Try.prog 103 #[.slice c3 l0.length c4,.int .i64 j,.int .i64 u] w fun e w' =>∃ b4:Value,e= .returned (b4)∧Kd.R (Kd.int .i64) 3 w' w.heap.size (fun _=>True) b4 r∧Below w.heap.size w w' :=by
 induction k using Nat.strongRecOn with
 |_ k ih=>
 intro c3 c4 l0 j u r w hr0 hc0 h
 cases k with
 |zero=>exact absurd h (by simp [impl_walk.f])
 |succ k=>
 simp only[impl_walk.f]at h
 have hu43:=Try.underlying43
 have e9:=am_ hr0
 have h3:=am_ hc0
 clear hr0 hc0
 have HB:=am_ (Below.refl w.heap.size w)
 have H:=h;clear h;have H' :=am_ H;clear H
 go_enter Try.func103,Try.ntmps103
 go_wp2
 go_loopg [7,15] k (fun kq v7 v15 w' =>∃ (c:List Int) (a:Int),v15= .int .i64 a∧Aside0 (impl_walk.l0 kq l0 j u c l0 (l0.length:Int) a=some r)∧Aside0 (kq≤k)∧Aside0 (Kd.R (Kd.int .i64) 3 w' w.heap.size (fun _=>True) v7 c)∧Aside0 (Below w.heap.size w w'))
 case atStart=>exact⟨(([]:List Int)),(0),qe_,H',⟨Nat.le_refl _⟩,⟨by first|exact Kd.R_nil _ _ _ _ _|exact Kd.N_nil _ _ _ _ _|exact Kd.V_nil _ _ _ _ _|exact Kd.Q_nil _ _ _ _ _|exact Kd.S_nil _ _ _ _ _⟩,⟨qB_⟩⟩
 case round=>
  clear H'
  (try clear f2)
  obtain⟨c,a,rfl,HA,HK1,l,HB⟩:=hrel
  cases gk with
  |zero=>exact absurd HA.out (by simp [impl_walk.l0])
  |succ d0=>
   have H:=HA.out;clear HA
   simp only[impl_walk.l0]at H
   refine ib_ H ?_ ?_<;>clear H<;>intro a1 H
   ·generalize B:(([j]:List Int))=h4 at H;replace H:=bh_ H;have D:=am_ B.symm;clear B;have H' :=am_ H;clear H
    go_wp2_with (first|((with_reducible refine gd_ 49 ?_);refine Kd.R_lit (Kd.int .i64) _ 3 ?hg (N:=49) ?hd (xs:=([j]:List Int)) (inner:=[.int .i64 j]) (ok:=fun _=>True) (okp:=fun _=>True) ?hr ?hp (fun _ hk=>hk) trivial (Below.refl _ _) (Nat.le_refl _) (by simp) ?_;(case hd=>rfl);(case hg=>rfl);(case hr=>first|(go_simp;done)|(go_simp;rfl));(case hp=>exact(Reps.one (show Kd.M (Kd.int .i64) _ _ _ j [.int .i64 j] from rfl) (Reps.none _ _)));intro o3 h5 ho41 hb hg_ hnew_;clear hg_ hnew_;(first|rw[←D.out]at ho41|(simp only[Int.reduceToNat]at ho41;rw[←D.out]at ho41));have h6:=am_ (Kd.R_lower (Kd.R_new' ho41 (Kd.R_lt (qR_ l))) (below_size qB_));replace l:=ke_ l ho41 hb;replace HB:=hs_ hb;clear hb ho41;obtain⟨j0,b2,h7⟩:=Kd.R_slice l.out;subst h7))
    go_loopg [10,52] d0 (fun kq v10 v52 w' =>∃ (m:List Int) (d:Int),v52= .int .i64 d∧Aside0 (impl_walk.l1 kq l0 j m c (c.length:Int) d=some r)∧Aside0 (kq≤d0)∧Aside0 (Kd.R (Kd.int .i64) 3 w' w.heap.size (fun k_=>some k_≠((.slice j0 c.length b2):Value).ownBlock) v10 m)∧Aside0 (Kd.R (Kd.int .i64) 3 w' w.heap.size (fun k_=>some k_≠(v10:Value).ownBlock) (.slice j0 c.length b2) c)∧Aside0 (Below w.heap.size w w'))
    case atStart=>exact⟨(h4),(0),qe_,H',⟨Nat.le_refl _⟩,⟨by(with_reducible repeat(first|apply Kd.R_alloc|apply Kd.R_drewN|apply Kd.R_drew));exact Kd.R_mono h6.out (fun _ hk=>hk.2)⟩,⟨by(with_reducible repeat(first|apply Kd.R_alloc|apply Kd.R_drewN|apply Kd.R_drew));exact Kd.R_mono l.out (fun _ hk=>hk.2)⟩,⟨qB_⟩⟩
    case round=>
     clear H' a1
     obtain⟨m,d,rfl,HA,HK2,b3,X,HB⟩:=hrel
     cases gk with
     |zero=>exact absurd HA.out (by simp [impl_walk.l1])
     |succ g7=>
      have H:=HA.out;clear HA
      simp only[impl_walk.l1]at H
      refine ib_ H ?_ ?_<;>clear H<;>intro d1 H
      ·obtain rfl:=oi_ H
       go_wp2
       go_ret
       exact⟨_,qr_,by(with_reducible repeat(first|apply Kd.R_alloc|apply Kd.R_drewN|apply Kd.R_drew));exact Kd.R_mono b3.out (fun _ hk=>trivial),qB_⟩
      refine ig_ H ?_;clear H;intro d2 H
      refine ig_ H ?_;clear H;intro d3 H
      obtain⟨a6,d4,H⟩:=bs_ H
      refine jg_ H ?_;clear H;intro b5 H
      have a7:=am_ b5
      clear b5
      generalize Y:(m++a6)=g8 at H;replace H:=bh_ H;have a8:=am_ Y.symm;clear Y
      refine jg_ H ?_;clear H;intro b6 H
      have a9:=am_ b6
      clear b6
      generalize Z:(g8++[j])=m7 at H;replace H:=bh_ H;have b0:=am_ Z.symm;clear Z;have H' :=am_ H;clear H
      have b7:=dt_ d
      have b8:=du_ d c.length
      obtain⟨o,b9,o5⟩:=Kd.at_int (Kd.R_reads' X.out).2.2 d (ot_ b7) (ot_ b8)
      cases b9
      go_wp2_with (first|((with_reducible refine gc_ 103 ?_);refine gl_ (some 60) Try.func103 #[.slice c3 l0.length c4,.int .i64 (rd c d),.int .i64 j] ?_;(with_reducible refine(ih g7 (by have:=HK1.out;have:=HK2.out;omega) _ _ l0 (rd c d) j a6 _ ?side1 ?side2 d4.out).mono ?_);(case side1=>exact qC_ e9 HB);(case side2=>exact h3.out);rintro e m8 ⟨o6,rfl,ho0,hb⟩;refine⟨_,rfl,?_⟩;have a4:=am_ (Kd.R_lower (Kd.R_new' (Kd.R_new' ho0 (Kd.R_lt (qR_ b3))) (Kd.R_lt (qR_ X))) (below_size qB_));replace b3:=ke_ b3 ho0 hb;replace X:=ke_ X ho0 hb;replace HB:=hs_ hb;clear hb ho0;obtain⟨c8,c9,m9⟩:=Kd.R_slice a4.out;subst m9)|((with_reducible refine gate_builtin (b:= .append) (xs:= #[.tmp 56,.tmp 60]) rfl ?_);at_builtin;refine Kd.R_append_rows (Kd.int .i64) (w0:=w) w.heap.size rfl (.tmp 56) (.tmp 60) 51 3 (.int .i64 0) 8 rfl Try.underlying51 info3 rfl (by decide) (by omega) u10 m a6 _ _ _ (fun k_=>some k_≠(.slice (some o) c.length b2:Value).ownBlock∧some k_≠(.slice c8 a6.length c9:Value).ownBlock) (fun _=>False) rfl rfl ?aO ?aR (fun _ _ h=>h) (fun _ h=>h.elim) ?aF ?aB ?aS ?aL ?_;(case aR=>repeat(first|exact(Kd.R_reads' a4.out).2.2|(with_reducible refine Kd.C_alloc ?_ _)|(with_reducible refine Kd.C_drewN ?_ _)|(with_reducible refine Kd.C_drew ?_)));(case aB=>exact qB_);(case aF=>exact(fun k_ hk=>⟨Kd.fresh' (Kd.R_lt (qR_ X)) k_ hk,Kd.fresh' (Kd.R_lt (qR_ a4)) k_ hk⟩));(case aO=>exact(qR_ b3));(case aS=>exact(below_size qB_));(case aL=>have:=a7.out;omega);intro n0 n1 ho hb hg hat;rw[←a8.out]at ho;have g9:=am_ (ho);replace X:=am_ (Kd.R_after (ok:=(fun k_=>some k_≠(.slice c8 a6.length c9:Value).ownBlock)) (by(with_reducible repeat(first|apply Kd.R_alloc|apply Kd.R_drewN|apply Kd.R_drew));exact Kd.R_mono X.out (fun _ hk=>⟨hk.2,hk.1⟩)) hg hat);replace a4:=am_ (Kd.R_after (ok:=(fun k_=>some k_≠(.slice (some o) c.length b2:Value).ownBlock)) (by(with_reducible repeat(first|apply Kd.R_alloc|apply Kd.R_drewN|apply Kd.R_drew));exact Kd.R_mono a4.out (fun _ hk=>⟨hk.2,hk.1.2⟩)) hg hat);replace HB:=am_ (hb);clear b3 ho hb hg hat)|((with_reducible refine gate_builtin (b:= .append) (xs:= #[.tmp 61,.tmp 63]) rfl ?_);at_builtin;refine Kd.R_append (Kd.int .i64) (w0:=w) w.heap.size rfl (.tmp 61) (.tmp 63) 51 3 (.int .i64 0) 8 rfl Try.underlying51 info3 rfl (by decide) (by omega) n0 g8 j [.int .i64 j] (fun k_=>some k_≠(.slice (some o) c.length b2:Value).ownBlock∧some k_≠(.slice c8 a6.length c9:Value).ownBlock) (fun _=>False) rfl rfl ?aP (fun _ hk=>hk.elim) ?aF ?aO ?aB ?aS ?aL ?_;(case aP=>exact rfl);(case aB=>exact qB_);(case aF=>exact(fun k_ hk=>⟨Kd.fresh' (Kd.R_lt (qR_ X)) k_ hk,Kd.fresh' (Kd.R_lt (qR_ a4)) k_ hk⟩));(case aO=>exact(qR_ g9));(case aS=>exact(below_size qB_));(case aL=>have:=a9.out;omega);intro o7 n2 ho hb hg hat;rw[←b0.out]at ho;have j4:=am_ (ho);replace X:=am_ (Kd.R_after (ok:=(fun k_=>some k_≠(.slice c8 a6.length c9:Value).ownBlock)) (qR_ X) hg hat);replace a4:=am_ (Kd.R_after (ok:=(fun k_=>some k_≠(.slice (some o) c.length b2:Value).ownBlock)) (qR_ a4) hg hat);replace HB:=am_ (hb);clear g9 ho hb hg hat))
      go_roundg g7
      case measure=>have:=HK1.out;have:=HK2.out;omega
      case rel=>exact⟨(m7),(wrap64 (d + 1)),qe_,H',⟨by have:=HK1.out;have:=HK2.out;omega⟩,⟨by(with_reducible repeat(first|apply Kd.R_alloc|apply Kd.R_drewN|apply Kd.R_drew));exact Kd.R_mono j4.out (fun _ hk=>hk.1)⟩,⟨by(with_reducible repeat(first|apply Kd.R_alloc|apply Kd.R_drewN|apply Kd.R_drew));exact Kd.R_mono X.out (fun _ hk=>hk.2)⟩,⟨qB_⟩⟩
   refine ig_ H ?_;clear H;intro a2 H
   refine ig_ H ?_;clear H;intro a3 H
   have d5:=am_ H
   clear H
   have U:=dt_ a
   have V:=du_ a l0.length
   obtain⟨d6,c0,c6,c7⟩:=at_T43 e9.out a (ot_ U) (ot_ V)
   cases c0
   replace c6:=qx_ HB c6
   replace c7:=qx_ HB c7
   go_upto_region 5 with (first|((with_reducible refine gd_ 9 ?_);refine by_ 9 (cs:= #[.int .i64 0,.int .i64 0]) (t:=43) ?_;intro c1 hg o8 g hb;have c2:=gw_ hg;replace l:=kb_ l hb;replace HB:=hs_ hb;clear hb hg;obtain⟨f9,g0,g5,g6⟩:=bc2_ g))
   go_cut [28] (fun v28 wc=>∃ (kq:Nat) (s:Bool),v28= .bool s∧Aside0 (impl_walk.j1 kq l0 j u c l0 (l0.length:Int) a s ((rd_T43 l0 a).f0) ((rd_T43 l0 a).f1)=some r)∧Aside0 (kq≤d0)∧Aside0 (Kd.R (Kd.int .i64) 3 wc w.heap.size (fun _=>True) u7 c)∧Aside0 (wc.heap[c1]? =some (.cells #[.int .i64 ((rd_T43 l0 a).f0),.int .i64 ((rd_T43 l0 a).f1)] 43 (0,0)))∧Aside0 (Below w.heap.size w wc))
   case first=>
    have H:=d5.out;clear d5
    refine jc_ H ?_ ?_<;>clear H<;>intro q H
    ·have i:(((rd_T43 l0 a).f0)==j)=true:=beq_iff_eq.mpr q
     have n:(((rd_T43 l0 a).f0) != j)=false:=bne_eq_false_iff_eq.mpr q
     clear q
     (first|rw[i]|rw[n]|(simp only[i64_w,i32_w];rw[i])|skip)
     have H' :=am_ H;clear H
     obtain⟨f5,f6,g1,g2⟩:=bc2_ g
     go_wp2
     go_meet
     case rel=>exact⟨_,((((rd_T43 l0 a).f1) != u)),qe_,H',⟨by have:=HK1.out;first|omega|exact Nat.le_refl _⟩,⟨by(with_reducible repeat(first|apply Kd.R_alloc|apply Kd.R_drewN|apply Kd.R_drew));exact Kd.R_mono (Kd.R_far (p:=⟨c1,1,none⟩) (Kd.R_far (p:=⟨c1,0,none⟩) (Kd.R_types l.out g.out (by decide)) (fun _ hk=>hk.2) (.int .i64 ((rd_T43 l0 a).f0))) (fun _ hk=>hk.2) (.int .i64 ((rd_T43 l0 a).f1))) (fun _ hk=>trivial)⟩,⟨qp_ g⟩,⟨qB_⟩⟩
    have i:(((rd_T43 l0 a).f0)==j)=false:=beq_eq_false_iff_ne.mpr q
    have n:(((rd_T43 l0 a).f0) != j)=true:=bne_iff_ne.mpr q
    (first|rw[i]|rw[n]|(simp only[i64_w,i32_w];rw[i])|skip)
    have H' :=am_ H;clear H
    obtain⟨f7,f8,g3,g4⟩:=bc2_ g
    go_wp2
    go_meet
    case rel=>exact⟨_,(false),qe_,H',⟨by have:=HK1.out;first|omega|exact Nat.le_refl _⟩,⟨by(with_reducible repeat(first|apply Kd.R_alloc|apply Kd.R_drewN|apply Kd.R_drew));exact Kd.R_mono (Kd.R_far (p:=⟨c1,1,none⟩) (Kd.R_far (p:=⟨c1,0,none⟩) (Kd.R_types l.out g.out (by decide)) (fun _ hk=>hk.2) (.int .i64 ((rd_T43 l0 a).f0))) (fun _ hk=>hk.2) (.int .i64 ((rd_T43 l0 a).f1))) (fun _ hk=>trivial)⟩,⟨qp_ g⟩,⟨qB_⟩⟩
   case rest=>
    clear d5 a1 a2 a3 f9 g0 g5 g6 c6 c7 U V
    obtain⟨kq,s,rfl,HA,A,l,g,HB⟩:=hcut
    cases kq with
    |zero=>exact absurd HA.out (by simp [impl_walk.j1])
    |succ kj6=>
     have H:=HA.out;clear HA
     simp only[impl_walk.j1]at H
     refine id_ H ?_ ?_<;>clear H<;>rintro rfl H
     ·refine jb_ H ?_ ?_<;>clear H<;>intro y H
      ·have J:(((rd_T43 l0 a).f1)==j)=false:=beq_eq_false_iff_ne.mpr y
       have L:(((rd_T43 l0 a).f1) != j)=true:=bne_iff_ne.mpr y
       have H' :=am_ H;clear H
       obtain⟨k3,k4,m5,m6⟩:=bc2_ g
       go_wp2
       go_roundg kj6
       case measure=>have:=HK1.out;have:=A.out;omega
       case rel=>exact⟨(c),(wrap64 (a + 1)),qe_,H',⟨by have:=HK1.out;have:=A.out;omega⟩,⟨ra_ l⟩,⟨qB_⟩⟩
      have J:(((rd_T43 l0 a).f1)==j)=true:=beq_iff_eq.mpr y
      have L:(((rd_T43 l0 a).f1) != j)=false:=bne_eq_false_iff_eq.mpr y
      clear y
      refine jc_ H ?_ ?_<;>clear H<;>intro z H
      ·have O:(((rd_T43 l0 a).f0)==u)=true:=beq_iff_eq.mpr z
       have T:(((rd_T43 l0 a).f0) != u)=false:=bne_eq_false_iff_eq.mpr z
       clear z;have H' :=am_ H;clear H
       obtain⟨j9,k0,m1,m2⟩:=bc2_ g
       go_wp2
       go_roundg kj6
       case measure=>have:=HK1.out;have:=A.out;omega
       case rel=>exact⟨(c),(wrap64 (a + 1)),qe_,H',⟨by have:=HK1.out;have:=A.out;omega⟩,⟨ra_ l⟩,⟨qB_⟩⟩
      have O:(((rd_T43 l0 a).f0)==u)=false:=beq_eq_false_iff_ne.mpr z
      have T:(((rd_T43 l0 a).f0) != u)=true:=bne_iff_ne.mpr z
      obtain⟨h0,d7,H⟩:=bs_ H
      have H' :=am_ H;clear H
      obtain⟨k1,k2,m3,m4⟩:=bc2_ g
      obtain⟨d8,d9,n3⟩:=Kd.R_slice l.out
      subst n3
      go_wp2_with (first|((with_reducible refine gc_ 133 ?_);refine gl_ (some 46) Try.func133 #[.slice d8 c.length d9,.int .i64 ((rd_T43 l0 a).f0)] ?_;(with_reducible refine(impl_with.calls kj6 (fun k_=>some k_=(.slice d8 c.length d9:Value).ownBlock) (.slice d8 c.length d9) c ((rd_T43 l0 a).f0) h0 w _ ?side1 ?side2 d7.out).mono ?_);(case side1=>exact qB_);(case side2=>exact Kd.R_tight rfl l.out);rintro e n4 ⟨o9,rfl,ho0,hb,hkp⟩;refine⟨_,rfl,?_⟩;have n5:=am_ (Kd.R_mono (ok' :=fun k_=>True) ho0 (fun k_ hk_=>trivial));replace g:=(qkp_ g hkp (fun hs_=>(fun e_=>(Kd.R_ne l.out g.out (by decide)) e_) hs_));replace HB:=am_ (hb);clear l hb hkp ho0))
      go_roundg kj6
      case measure=>have:=HK1.out;have:=A.out;omega
      case rel=>exact⟨(h0),(wrap64 (a + 1)),qe_,H',⟨by have:=HK1.out;have:=A.out;omega⟩,⟨ra_ n5⟩,⟨qB_⟩⟩
     obtain⟨a0,b1,H⟩:=bs_ H
     refine jb_ H ?_ ?_<;>clear H<;>intro v H
     ·have E:(((rd_T43 l0 a).f1)==j)=false:=beq_eq_false_iff_ne.mpr v
      have F:(((rd_T43 l0 a).f1) != j)=true:=bne_iff_ne.mpr v
      have H' :=am_ H;clear H
      obtain⟨j5,j6,l7,l8⟩:=bc2_ g
      obtain⟨e0,e1,l2⟩:=Kd.R_slice l.out
      subst l2
      go_wp2_with (first|((with_reducible refine gc_ 133 ?_);refine gl_ (some 32) Try.func133 #[.slice e0 c.length e1,.int .i64 ((rd_T43 l0 a).f1)] ?_;(with_reducible refine(impl_with.calls kj6 (fun k_=>some k_=(.slice e0 c.length e1:Value).ownBlock) (.slice e0 c.length e1) c ((rd_T43 l0 a).f1) a0 w _ ?side1 ?side2 b1.out).mono ?_);(case side1=>exact qB_);(case side2=>exact Kd.R_tight rfl l.out);rintro e n6 ⟨h1,rfl,ho0,hb,hkp⟩;refine⟨_,rfl,?_⟩;have a5:=am_ (Kd.R_mono (ok' :=fun k_=>True) ho0 (fun k_ hk_=>trivial));replace g:=(qkp_ g hkp (fun hs_=>(fun e_=>(Kd.R_ne l.out g.out (by decide)) e_) hs_));replace HB:=am_ (hb);clear l hb hkp ho0;obtain⟨j7,j8,l9,m0⟩:=bc2_ g))
      go_roundg kj6
      case measure=>have:=HK1.out;have:=A.out;omega
      case rel=>exact⟨(a0),(wrap64 (a + 1)),qe_,H',⟨by have:=HK1.out;have:=A.out;omega⟩,⟨ra_ a5⟩,⟨qB_⟩⟩
     have E:(((rd_T43 l0 a).f1)==j)=true:=beq_iff_eq.mpr v
     have F:(((rd_T43 l0 a).f1) != j)=false:=bne_eq_false_iff_eq.mpr v
     clear v
     refine jc_ H ?_ ?_<;>clear H<;>intro x H
     ·have G:(((rd_T43 l0 a).f0)==u)=true:=beq_iff_eq.mpr x
      have I:(((rd_T43 l0 a).f0) != u)=false:=bne_eq_false_iff_eq.mpr x
      clear x;have H' :=am_ H;clear H
      obtain⟨i3,i4,k5,k6⟩:=bc2_ g
      obtain⟨e2,e3,l3⟩:=Kd.R_slice l.out
      subst l3
      go_wp2_with (first|((with_reducible refine gc_ 133 ?_);refine gl_ (some 32) Try.func133 #[.slice e2 c.length e3,.int .i64 ((rd_T43 l0 a).f1)] ?_;(with_reducible refine(impl_with.calls kj6 (fun k_=>some k_=(.slice e2 c.length e3:Value).ownBlock) (.slice e2 c.length e3) c ((rd_T43 l0 a).f1) a0 w _ ?side1 ?side2 b1.out).mono ?_);(case side1=>exact qB_);(case side2=>exact Kd.R_tight rfl l.out);rintro e n7 ⟨h1,rfl,ho0,hb,hkp⟩;refine⟨_,rfl,?_⟩;have a5:=am_ (Kd.R_mono (ok' :=fun k_=>True) ho0 (fun k_ hk_=>trivial));replace g:=(qkp_ g hkp (fun hs_=>(fun e_=>(Kd.R_ne l.out g.out (by decide)) e_) hs_));replace HB:=am_ (hb);clear l hb hkp ho0;obtain⟨i5,i6,k7,k8⟩:=bc2_ g))
      go_roundg kj6
      case measure=>have:=HK1.out;have:=A.out;omega
      case rel=>exact⟨(a0),(wrap64 (a + 1)),qe_,H',⟨by have:=HK1.out;have:=A.out;omega⟩,⟨ra_ a5⟩,⟨qB_⟩⟩
     have G:(((rd_T43 l0 a).f0)==u)=false:=beq_eq_false_iff_ne.mpr x
     have I:(((rd_T43 l0 a).f0) != u)=true:=bne_iff_ne.mpr x
     obtain⟨h2,e4,H⟩:=bs_ H
     have H' :=am_ H;clear H
     obtain⟨i7,i8,k9,l4⟩:=bc2_ g
     obtain⟨e5,e6,n8⟩:=Kd.R_slice l.out
     subst n8
     go_wp2_with (first|((with_reducible refine gc_ 133 ?_);refine gl_ (some 32) Try.func133 #[.slice e5 c.length e6,.int .i64 ((rd_T43 l0 a).f1)] ?_;(with_reducible refine(impl_with.calls kj6 (fun k_=>some k_=(.slice e5 c.length e6:Value).ownBlock) (.slice e5 c.length e6) c ((rd_T43 l0 a).f1) a0 w _ ?side1 ?side2 b1.out).mono ?_);(case side1=>exact qB_);(case side2=>exact Kd.R_tight rfl l.out);rintro e n9 ⟨h1,rfl,ho0,hb,hkp⟩;refine⟨_,rfl,?_⟩;have a5:=am_ (Kd.R_mono (ok' :=fun k_=>True) ho0 (fun k_ hk_=>trivial));replace g:=(qkp_ g hkp (fun hs_=>(fun e_=>(Kd.R_ne l.out g.out (by decide)) e_) hs_));replace HB:=am_ (hb);clear l hb hkp ho0;obtain⟨i9,j3,l5,l6⟩:=bc2_ g;obtain⟨e7,e8,o0⟩:=Kd.R_slice a5.out;subst o0)|((with_reducible refine gc_ 133 ?_);refine gl_ (some 46) Try.func133 #[.slice e7 a0.length e8,.int .i64 ((rd_T43 l0 a).f0)] ?_;(with_reducible refine(impl_with.calls kj6 (fun k_=>some k_=(.slice e7 a0.length e8:Value).ownBlock) (.slice e7 a0.length e8) a0 ((rd_T43 l0 a).f0) h2 w _ ?side1 ?side2 e4.out).mono ?_);(case side1=>exact qB_);(case side2=>exact Kd.R_tight rfl a5.out);rintro e o1 ⟨p0,rfl,ho0,hb,hkp⟩;refine⟨_,rfl,?_⟩;have o2:=am_ (Kd.R_mono (ok' :=fun k_=>True) ho0 (fun k_ hk_=>trivial));replace g:=(qkp_ g hkp (fun hs_=>(fun e_=>(Kd.R_ne a5.out g.out (by decide)) e_) hs_));replace HB:=am_ (hb);clear a5 hb hkp ho0))
     go_roundg kj6
     case measure=>have:=HK1.out;have:=A.out;omega
     case rel=>exact⟨(h2),(wrap64 (a + 1)),qe_,H',⟨by have:=HK1.out;have:=A.out;omega⟩,⟨ra_ o2⟩,⟨qB_⟩⟩
end Go.Proofs.Ytbkklafkoegdpaa.QFnLevels

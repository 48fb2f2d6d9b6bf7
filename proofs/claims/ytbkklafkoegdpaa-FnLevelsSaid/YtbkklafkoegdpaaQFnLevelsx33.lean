import Derived.Test.YtbkklafkoegdpaaQFnLevelsx32
namespace Go.Proofs.Ytbkklafkoegdpaa.QFnLevels
open Go.RowKit Go.Proofs.YtbkklafkoegdpaaW.PrintWords Go.Proofs.YtbkklafkoegdpaaW.PrintLast Go.Proofs.YtbkklafkoegdpaaW.PrintMore
set_option maxHeartbeats 8000000
set_option maxRecDepth 100000
set_option linter.unusedVariables false
set_option linter.unusedSimpArgs false
theorem now_x33 {P:Program} {ops:Array Oper} {Q:Exit→Act→World→Prop} {md:Region.Mode} {S:World→Prop} {ds:List Nat} {i:Nat} {N:Option Tmp} {oi:Oper} {v:Value} {fuel:Nat} {l:Array Bool} {a:Act} {w:World} (l' :Array Bool) (hi:ops[i]? =some oi) (hN:oi.dst=N) (hc:readyB md ops l l' i=true) (hd:i∉ds)
    (hy:YieldsIf P ops (fun w' =>w' =w) oi v a) (hS:S w) {a' :Act} (ha:a.put N v=a')
    (h:wpAnyLast P md ops Q S ds fuel l' a' w):wpAnyLast P md ops Q S ds (fuel + 1) l a w:=by
  subst ha
  refine one_ l' hi hN hc hd (fun K hK=> ?_)
  subst hN
  rcases hy with ⟨hw,hv⟩|⟨hw,rfl⟩
  · simp only[hw,if_true,Oper.wp,hv w rfl,Oper.upon];exact hK.out _ _ hS (fun _=>h)
  · simp only[hw,Bool.false_eq_true,if_false];exact hK.out _ _ hS (fun _=>h)
mutual
def impl_ForestOk.l0:Nat→List Int→List (List Int)→Int→Int→Int→List (List Int)→Option (Bool)
  |0,_,_,_,_,_,_=>none
  |k + 1,x3,x14,x15,x16,x764000,x764001=>if x16<x15 then (if 0≤x16 then (if x16<(x14.length:Int) then ((impl_TourOk.f k (rd_L5 x14 x16)).bind fun t766=>(if t766=true then ((impl_VertsOf.f k (rd_L5 x14 x16)).bind fun t767=>(impl_ForestOk.l1 k x3 x16 t767 x14 x15 x16 t767 (t767.length:Int) 0 x764000 x764001)) else (some false))) else (none)) else (none)) else (some ((x3.length:Int)==x764000))
def impl_ForestOk.l1:Nat→List Int→Int→List Int→List (List Int)→Int→Int→List Int→Int→Int→Int→List (List Int)→Option (Bool)
  |0,_,_,_,_,_,_,_,_,_,_,_=>none
  |k + 1,x3,x4,x6,x14,x15,x16,x26,x27,x28,x764000,x764001=>if x28<x27 then (if 0≤x28 then (if x28<(x26.length:Int) then (if (rd x26 x28)≥x764000 then (some false) else ((impl_hasInt.f k x3 (rd x26 x28)).bind fun t771=>(if t771=true then (some false) else (impl_ForestOk.l1 k x3 x4 x6 x14 x15 x16 x26 x27 (wrap64 (x28 + 1)) x764000 x764001)))) else (none)) else (none)) else (if x3.length + x6.length<17592186044416 then ((some (x3++x6:List Int)).bind fun y772=>(if x4>0 then (if 0≤(wrap64 (x4 - 1)) then (if (wrap64 (x4 - 1))<(x764001.length:Int) then ((impl_VertsOf.f k (rd_L5 x764001 (wrap64 (x4 - 1)))).bind fun t776=>(if 0<(t776.length:Int) then (if 0<(x6.length:Int) then (if (rd t776 0)≥(rd x6 0) then (some false) else (impl_ForestOk.l0 k y772 x14 x15 (wrap64 (x16 + 1)) x764000 x764001)) else (none)) else (none))) else (none)) else (none)) else (impl_ForestOk.l0 k y772 x14 x15 (wrap64 (x16 + 1)) x764000 x764001))) else (none))
end
def impl_ForestOk.f (k:Nat) (a0_0:Int) (l0_1:List (List Int)):Option (Bool):=(impl_in.f a0_0 1 12).bind fun t764=>(if t764=true then (impl_ForestOk.l0 k ([]:List Int) l0_1 (l0_1.length:Int) 0 a0_0 l0_1) else (some false))
def impl_ForestOk.T17:Bool × List (List Nat × List Nat):=(true,[([],[]),([0],[0]),([1],[1]),([2],[2]),([3,2],[2,3]),([2],[2]),([5,2],[2,5]),([4,6,2],[2,4,6]),([7,2],[2,7]),([8,2,2],[2,8]),([9,2],[2,9]),([10,2],[2,10]),([2],[2]),([12,2],[2,12]),([13,2],[2,13]),([11,14,2],[2,11,14]),([2,15],[2,15])])
def impl_ForestOk.B17:List Nat:=[0,1,3,7,15,7,39,127,255,511,1023,2047,7,4103,12295,32767,65535]
theorem impl_ForestOk.tab17:rtab .any (opsOf Try.f75 17)=impl_ForestOk.T17:=by kernel_rfl
theorem impl_ForestOk.bits17:waitsOk impl_ForestOk.T17.2 impl_ForestOk.B17=true:=by kernel_rfl
theorem impl_ForestOk.calls (k:Nat) (g:Int) (T:Option Addr) (D:Nat) (a:List (List Int)) (r:Bool) (w:World) (hr0_1:Kd.C (Kd.slice 3 (Kd.int .i64)) w T a.length a) (hc0_1:a.length≤D) (h:impl_ForestOk.f k g a=some r):
  Calls Try.prog 75 #[.agg #[.int .i64 g,.slice T a.length D]] w fun e w' =>e= .returned (.bool r)∧Below w.heap.size w w' :=by
 have hu39:=Try.underlying39
 have M:=am_ hr0_1
 have e4:=am_ hc0_1
 clear hr0_1 hc0_1
 have HB:=am_ (Below.refl w.heap.size w)
 rw[impl_ForestOk.f]at h;have H:=h;clear h
 obtain⟨i9,f9,H⟩:=bs_ H
 refine id_ H ?_ ?_<;>clear H<;>rintro rfl H
 ·obtain rfl:=oi_ H
  go_enter Try.func75,Try.ntmps75
  go_wp2_with (first|((with_reducible refine gd_ 1 ?_);refine by_ 1 (cs:= #[.int .i64 g,.slice T a.length D]) (t:=39) ?_;intro c2 hg h1 j hb;have h2:=gw_ hg;replace HB:=hs_ hb;clear hb hg;obtain⟨j3,j5,j6,j7⟩:=bc2_ j)|((with_reducible refine gc_ 66 ?_);refine gl_ (some 11) Try.func66 #[.int .i64 g,.int .i64 1,.int .i64 12] ?_;(with_reducible refine(impl_in.calls g 1 12 false _ f9.out).mono ?_);rintro e w' ⟨rfl,⟨nd,rfl⟩⟩;refine⟨_,rfl,?_⟩))
  go_ret
  exact⟨qr_,qB_⟩
 have H' :=am_ H;clear H
 go_enter Try.func75,Try.ntmps75
 go_wp2_with (first|((with_reducible refine gd_ 1 ?_);refine by_ 1 (cs:= #[.int .i64 g,.slice T a.length D]) (t:=39) ?_;intro c2 hg j8 j hb;have h2:=gw_ hg;replace HB:=hs_ hb;clear hb hg;obtain⟨g0,g1,g2,g3⟩:=bc2_ j)|((with_reducible refine gc_ 66 ?_);refine gl_ (some 11) Try.func66 #[.int .i64 g,.int .i64 1,.int .i64 12] ?_;(with_reducible refine(impl_in.calls g 1 12 true _ f9.out).mono ?_);rintro e w' ⟨rfl,⟨nd,rfl⟩⟩;refine⟨_,rfl,?_⟩))
 go_loopg [3,16] k (fun kq v3 v16 w' =>∃ (o:List Int) (c:Int),v16= .int .i64 c∧Aside0 (impl_ForestOk.l0 kq o a (a.length:Int) c g a=some r)∧Aside0 (kq≤k)∧Aside0 (Kd.R (Kd.int .i64) 3 w' w.heap.size (fun _=>True) v3 o)∧Aside0 (w'.heap[c2]? =some (.cells #[.int .i64 g,(.slice T a.length D)] 39 (0,0)))∧Aside0 (Below w.heap.size w w'))
 case atStart=>exact⟨(([]:List Int)),(0),qe_,H',⟨Nat.le_refl _⟩,⟨by first|exact Kd.R_nil _ _ _ _ _|exact Kd.N_nil _ _ _ _ _|exact Kd.V_nil _ _ _ _ _|exact Kd.Q_nil _ _ _ _ _|exact Kd.S_nil _ _ _ _ _⟩,⟨qk_ j⟩,⟨qB_⟩⟩
 case round=>
  clear H'
  (try clear g4);clear g0 g1 g2 g3
  obtain⟨o,c,rfl,HA,HK1,E,j,HB⟩:=hrel
  cases gk with
  |zero=>exact absurd HA.out (by simp [impl_ForestOk.l0])
  |succ d2=>
   have H:=HA.out;clear HA
   simp only[impl_ForestOk.l0]at H
   refine ib_ H ?_ ?_<;>clear H<;>intro d3 H
   ·obtain rfl:=oi_ H
    obtain⟨j9,k0,h4⟩:=Kd.R_slice E.out
    subst h4
    obtain⟨k1,k2,k3,k4⟩:=bc2_ j
    go_wp2
    go_ret
    exact⟨qr_,qB_⟩
   refine ig_ H ?_;clear H;intro d4 H
   refine ig_ H ?_;clear H;intro d5 H
   obtain⟨k5,g5,H⟩:=bs_ H
   refine id_ H ?_ ?_<;>clear H<;>rintro rfl H
   ·obtain rfl:=oi_ H
    have a2:=dt_ c
    have a3:=du_ c a.length
    obtain⟨p,A765_0,c765_0,a4,d1,q,hi765_0⟩:=at_L5 M.out c (ot_ a2) (ot_ a3)
    cases a4
    replace d1:=qx_ HB d1
    have y:=am_ hi765_0
    have z:=am_ q
    clear hi765_0 q
    go_wp2_with (first|((with_reducible refine gc_ 119 ?_);refine gl_ (some 22) Try.func119 #[.slice A765_0 (rd_L5 a c).length c765_0] ?_;(with_reducible refine(impl_TourOk.calls d2 _ _ (rd_L5 a c) false _ ?_ ?_ g5.out).mono ?_);exact qC_ y HB;exact z.out;rintro e h5 ⟨rfl,hb⟩;refine⟨_,rfl,?_⟩;replace E:=kb_ E hb;replace j:=qbl_ j hb;replace HB:=hs_ hb;clear hb))
    go_ret
    exact⟨qr_,qB_⟩
   obtain⟨m,e5,H⟩:=bs_ H
   have H' :=am_ H;clear H
   have a2:=dt_ c
   have a3:=du_ c a.length
   obtain⟨p,A765_0,c765_0,a4,d1,q,hi765_0⟩:=at_L5 M.out c (ot_ a2) (ot_ a3)
   cases a4
   replace d1:=qx_ HB d1
   have y:=am_ hi765_0
   have z:=am_ q
   clear hi765_0 q
   go_wp2_with (first|((with_reducible refine gc_ 119 ?_);refine gl_ (some 22) Try.func119 #[.slice A765_0 (rd_L5 a c).length c765_0] ?_;(with_reducible refine(impl_TourOk.calls d2 _ _ (rd_L5 a c) true _ ?_ ?_ g5.out).mono ?_);exact qC_ y HB;exact z.out;rintro e h6 ⟨rfl,hb⟩;refine⟨_,rfl,?_⟩;replace E:=kb_ E hb;replace j:=qbl_ j hb;replace HB:=hs_ hb;clear hb)|((with_reducible refine gc_ 106 ?_);refine gl_ (some 25) Try.func106 #[.slice A765_0 (rd_L5 a c).length c765_0] ?_;(with_reducible refine(impl_VertsOf.calls d2 _ _ (rd_L5 a c) m _ ?_ ?_ e5.out).mono ?_);exact qC_ y HB;exact z.out;rintro e h7 ⟨k6,rfl,ho0,hb⟩;refine⟨_,rfl,?_⟩;have e6:=am_ (Kd.R_lower (Kd.R_new' ho0 (Kd.R_lt (qR_ E))) (below_size qB_));replace E:=ke_ E ho0 hb;replace j:=qbl_ j hb;replace HB:=hs_ hb;clear hb ho0;obtain⟨b4,b5,h8⟩:=Kd.R_slice e6.out;subst h8))
   go_loopg [28] d2 (fun kq v28 w' =>∃ (d:Int),v28= .int .i64 d∧Aside0 (impl_ForestOk.l1 kq o c m a (a.length:Int) c m (m.length:Int) d g a=some r)∧Aside0 (kq≤d2)∧Aside0 (Kd.R (Kd.int .i64) 3 w' w.heap.size (fun k_=>some k_≠((.slice b4 m.length b5):Value).ownBlock∧some k_≠((.slice b4 m.length b5):Value).ownBlock) u3 o)∧Aside0 (Kd.R (Kd.int .i64) 3 w' w.heap.size (fun k_=>some k_≠(u3:Value).ownBlock) (.slice b4 m.length b5) m)∧Aside0 (Kd.R (Kd.int .i64) 3 w' w.heap.size (fun k_=>some k_≠(u3:Value).ownBlock) (.slice b4 m.length b5) m)∧Aside0 (w'.heap[c2]? =some (.cells #[.int .i64 g,(.slice (some p) a.length D)] 39 (0,0)))∧Aside0 (Below w.heap.size w w'))
   case atStart=>exact⟨(0),qe_,H',⟨Nat.le_refl _⟩,⟨by(with_reducible repeat(first|apply Kd.R_alloc|apply Kd.R_drewN|apply Kd.R_drew));exact Kd.R_mono E.out (fun _ hk=>⟨hk.2,hk.2⟩)⟩,⟨by(with_reducible repeat(first|apply Kd.R_alloc|apply Kd.R_drewN|apply Kd.R_drew));exact Kd.R_mono e6.out (fun _ hk=>hk.2)⟩,⟨by(with_reducible repeat(first|apply Kd.R_alloc|apply Kd.R_drewN|apply Kd.R_drew));exact Kd.R_mono e6.out (fun _ hk=>hk.2)⟩,⟨qk_ j⟩,⟨qB_⟩⟩
   case round=>
    clear H' d3 d4 d5 d1 a2 a3
    obtain⟨d,rfl,HA,HK2,E,x,A,j,HB⟩:=hrel
    cases gk with
    |zero=>exact absurd HA.out (by simp [impl_ForestOk.l1])
    |succ c3=>
     have H:=HA.out;clear HA
     simp only[impl_ForestOk.l1]at H
     refine ic_ H ?_ ?_<;>clear H<;>intro e7 H
     ·refine ig_ H ?_;clear H;intro e8 H
      refine ig_ H ?_;clear H;intro e9 H
      refine jc_ H ?_ ?_<;>clear H<;>intro b6 H
      ·have c4:decide (g≤(rd m d))=true:=decide_eq_true b6
       clear b6
       obtain rfl:=oi_ H
       have U:=dt_ d
       have V:=du_ d m.length
       obtain⟨a5,X,g6⟩:=Kd.at_int (Kd.R_reads' A.out).2.2 d (ot_ U) (ot_ V)
       cases X
       obtain⟨l8,l9,m0,m1⟩:=bc2_ j
       go_wp2
       go_ret
       exact⟨qr_,qB_⟩
      have c4:decide (g≤(rd m d))=false:=decide_eq_false b6
      clear b6
      obtain⟨m2,d6,H⟩:=bs_ H
      refine ie_ H ?_ ?_<;>clear H<;>rintro rfl H
      ·obtain rfl:=oi_ H
       have U:=dt_ d
       have V:=du_ d m.length
       obtain⟨a5,X,g6⟩:=Kd.at_int (Kd.R_reads' A.out).2.2 d (ot_ U) (ot_ V)
       cases X
       obtain⟨m3,m4,m5,m6⟩:=bc2_ j
       obtain⟨m7,m8,i1⟩:=Kd.R_slice E.out
       subst i1
       go_wp2_with (first|(go_at_call 120;(with_reducible refine(impl_hasInt.calls c3 _ _ o (rd m d) true _ ?_ ?_ d6.out).mono ?_);exact qD_ (Kd.R_reads' E.out).2.2;exact(Kd.R_reads' E.out).2.1;rintro e w' ⟨rfl,⟨nd,rfl⟩⟩))
       go_ret
       exact⟨qr_,qB_⟩
      have H' :=am_ H;clear H
      have U:=dt_ d
      have V:=du_ d m.length
      obtain⟨a5,X,g6⟩:=Kd.at_int (Kd.R_reads' A.out).2.2 d (ot_ U) (ot_ V)
      cases X
      obtain⟨m9,n0,n1,n2⟩:=bc2_ j
      obtain⟨n3,n4,i2⟩:=Kd.R_slice E.out
      subst i2
      go_wp2_with (first|(go_at_call 120;(with_reducible refine(impl_hasInt.calls c3 _ _ o (rd m d) false _ ?_ ?_ d6.out).mono ?_);exact qD_ (Kd.R_reads' E.out).2.2;exact(Kd.R_reads' E.out).2.1;rintro e w' ⟨rfl,⟨nd,rfl⟩⟩))
      go_roundg c3
      case measure=>have:=HK1.out;have:=HK2.out;omega
      case rel=>exact⟨(wrap64 (d + 1)),qe_,H',⟨by have:=HK1.out;have:=HK2.out;omega⟩,⟨ra_ E⟩,⟨ra_ x⟩,⟨ra_ A⟩,⟨qk_ j⟩,⟨qB_⟩⟩
     refine jg_ H ?_;clear H;intro d7 H
     have Y:=am_ d7
     clear d7
     generalize a6:(o++m)=g7 at H;replace H:=bh_ H;have Z:=am_ a6.symm;clear a6
     refine jb_ H ?_ ?_<;>clear H<;>intro b7 H
     ·have c5:decide (0<c)=false:=decide_eq_false b7
      clear b7;have H' :=am_ H;clear H
      try go_wp2_with (first|((with_reducible refine gate_builtin (b:= .append) (xs:= #[.tmp 42,.tmp 43]) rfl ?_);at_builtin;refine Kd.R_append_rows (Kd.int .i64) (w0:=w) w.heap.size rfl (.tmp 42) (.tmp 43) 51 3 (.int .i64 0) 8 rfl Try.underlying51 info3 rfl (by decide) (by omega) u3 o m _ _ _ (fun k_=>some k_≠(.slice b4 m.length b5:Value).ownBlock∧some k_≠(.slice b4 m.length b5:Value).ownBlock) (fun _=>False) rfl rfl ?aO ?aR (fun _ _ h=>h) (fun _ h=>h.elim) ?aF ?aB ?aS ?aL ?_;(case aR=>repeat(first|exact(Kd.R_reads' x.out).2.2|(with_reducible refine Kd.C_alloc ?_ _)|(with_reducible refine Kd.C_drewN ?_ _)|(with_reducible refine Kd.C_drew ?_)));(case aB=>exact qB_);(case aF=>exact(fun k_ hk=>⟨Kd.fresh' (Kd.R_lt (qR_ x)) k_ hk,Kd.fresh' (Kd.R_lt (qR_ A)) k_ hk⟩));(case aO=>exact(qR_ E));(case aS=>exact(below_size qB_));(case aL=>have:=Y.out;omega);intro g8 f0 ho hb hg hat;rw[←Z.out]at ho;have O:=am_ (ho);replace x:=am_ (Kd.R_after (ok:=(fun _=>True)) (by(with_reducible repeat(first|apply Kd.R_alloc|apply Kd.R_drewN|apply Kd.R_drew));exact Kd.R_mono x.out (fun _ hk=>⟨trivial,hk⟩)) hg hat);replace A:=am_ (Kd.R_after (ok:=(fun _=>True)) (by(with_reducible repeat(first|apply Kd.R_alloc|apply Kd.R_drewN|apply Kd.R_drew));exact Kd.R_mono A.out (fun _ hk=>⟨trivial,hk⟩)) hg hat);replace j:=am_ (blk_grown (qk_ j) hg (Kd.R_ne E.out j.out (by decide)));replace HB:=am_ (hb);clear E ho hb hg hat))
      replace x:=rd_ x;replace A:=rd_ A;replace O:=rd_ O;replace j:=bd_ j;replace HB:=hd_ HB
      refine start_ (n:=17) (S:=fun w' =>True) (ds:=[]) (bm 17 0) (by kernel_rfl) rfl (by kernel_rfl) trivial (fun hHeld=> ?_);refine with_tabW impl_ForestOk.tab17 impl_ForestOk.bits17 (fun HT_ HW_=> ?_)
      generalize f0.drew=i3 at x A O j HB hHeld ⊢
      refine pz_ 0 45 17 1 ?_;refine pz_ 1 46 17 3 ?_;refine pz_ 2 47 17 7 ?_
      refine pu_ 3 48 17 15 ?_
      refine pu_ 4 49 17 31 ?_
      refine pu_ 5 50 17 63 ?_
      refine pu_ 6 51 17 127 ?_
      refine pu_ 7 52 17 255 ?_
      refine pu_ 8 53 17 511 ?_
      refine pu_ 9 54 17 1023 ?_
      refine pu_ 10 55 17 2047 ?_
      refine pu_ 11 56 17 4095 ?_
      refine pu_ 12 57 17 8191 ?_
      refine pu_ 13 58 17 16383 ?_
      refine pu_ 14 59 17 32767 ?_
      refine pu_ 15 60 17 65535 ?_
      refine pz_ 16 61 17 131071 ?_
      refine done_ (done_of HT_.out (by kernel_rfl)) ?_
      try go_wp2
      go_roundg c3
      case measure=>have:=HK1.out;have:=HK2.out;omega
      case rel=>exact⟨(g7),(wrap64 (c + 1)),qe_,H',⟨by have:=HK1.out;have:=HK2.out;omega⟩,⟨by(with_reducible repeat(first|apply Kd.R_alloc|apply Kd.R_drewN|apply Kd.R_drew));exact Kd.R_mono O.out (fun _ hk=>trivial)⟩,⟨qk_ j⟩,⟨qB_⟩⟩
     have c5:decide (0<c)=true:=decide_eq_true b7
     clear b7
     obtain⟨l,B⟩:∃ j_:Int,(wrap64 (c - 1))=j_:=⟨_,rfl⟩
     first|rw[B]at H|simp only[B]at H
     have hji28w:(IntKind.i64.wrap (c - 1))=l:=(i64_w _).trans B
     refine ig_ H ?_;clear H;intro f1 H
     refine ig_ H ?_;clear H;intro f2 H
     obtain⟨b8,d8,H⟩:=bs_ H
     refine jg_ H ?_;clear H;intro d9 H
     have f3:=decide_eq_true d9
     have f4:decide (0<b8.length)=true:=decide_eq_true (by omega)
     clear d9
     refine jg_ H ?_;clear H;intro e0 H
     have f5:=decide_eq_true e0
     have f6:decide (0<m.length)=true:=decide_eq_true (by omega)
     clear e0
     refine jc_ H ?_ ?_<;>clear H<;>intro b9 H
     ·have c6:decide ((rd m 0)≤(rd b8 0))=true:=decide_eq_true b9
      clear b9
      obtain rfl:=oi_ H
      try go_wp2_with (first|((with_reducible refine gate_builtin (b:= .append) (xs:= #[.tmp 42,.tmp 43]) rfl ?_);at_builtin;refine Kd.R_append_rows (Kd.int .i64) (w0:=w) w.heap.size rfl (.tmp 42) (.tmp 43) 51 3 (.int .i64 0) 8 rfl Try.underlying51 info3 rfl (by decide) (by omega) u3 o m _ _ _ (fun k_=>some k_≠(.slice b4 m.length b5:Value).ownBlock∧some k_≠(.slice b4 m.length b5:Value).ownBlock) (fun _=>False) rfl rfl ?aO ?aR (fun _ _ h=>h) (fun _ h=>h.elim) ?aF ?aB ?aS ?aL ?_;(case aR=>repeat(first|exact(Kd.R_reads' x.out).2.2|(with_reducible refine Kd.C_alloc ?_ _)|(with_reducible refine Kd.C_drewN ?_ _)|(with_reducible refine Kd.C_drew ?_)));(case aB=>exact qB_);(case aF=>exact(fun k_ hk=>⟨Kd.fresh' (Kd.R_lt (qR_ x)) k_ hk,Kd.fresh' (Kd.R_lt (qR_ A)) k_ hk⟩));(case aO=>exact(qR_ E));(case aS=>exact(below_size qB_));(case aL=>have:=Y.out;omega);intro g8 f7 ho hb hg hat;rw[←Z.out]at ho;have O:=am_ (ho);replace x:=am_ (Kd.R_after (ok:=(fun _=>True)) (by(with_reducible repeat(first|apply Kd.R_alloc|apply Kd.R_drewN|apply Kd.R_drew));exact Kd.R_mono x.out (fun _ hk=>⟨trivial,hk⟩)) hg hat);replace A:=am_ (Kd.R_after (ok:=(fun _=>True)) (by(with_reducible repeat(first|apply Kd.R_alloc|apply Kd.R_drewN|apply Kd.R_drew));exact Kd.R_mono A.out (fun _ hk=>⟨trivial,hk⟩)) hg hat);replace j:=am_ (blk_grown (qk_ j) hg (Kd.R_ne E.out j.out (by decide)));replace HB:=am_ (hb);clear E ho hb hg hat))
      replace x:=rd_ x;replace A:=rd_ A;replace O:=rd_ O;replace j:=bd_ j;replace HB:=hd_ HB
      have a7:=dt_ ((l))
      have a8:=du_ (l) a.length
      obtain⟨a0,A775_0,c775_0,a9,c0,s,hi775_0⟩:=at_L5 M.out (l) (ot_ a7) (ot_ a8)
      have e1:=c0
      obtain rfl:p=a0:=(by injection a9)
      replace c0:=qx_ HB c0
      have u:=am_ hi775_0
      have F:=am_ s
      clear hi775_0 s
      have G:0≤(0:Int):=(by omega)
      have I:=dl_ 0 m.length
      obtain⟨a1,b0,c1⟩:=Kd.at_int (Kd.R_reads' x.out).2.2 0 G I
      cases b0
      have qi780:(0<m.length)=True:=eq_true (by omega)
      rw[show((0:Int)).toNat=0 from rfl]at c1
      rw[Addr.add_zero']at c1
      replace G:=eq_true G;replace I:=eq_true I
      refine start_ (n:=17) (S:=fun w' =>w'.cell? ⟨c2,0,none⟩=some (.int .i64 g)∧w'.cell? ⟨c2,1,none⟩=some (.slice (some p) a.length D)∧w'.cell? (p.add ((l)).toNat)=some (.slice A775_0 (rd_L5 a (l)).length c775_0)∧w'.cell? a1=some (.int .i64 (rd m 0))) (ds:=[]) (bm 17 0) (by kernel_rfl) rfl (by kernel_rfl) ⟨bl_ j 0,bl_ j 1,((qx_ HB e1).trans rfl),c1⟩ (fun hHeld=> ?_);refine with_tabW impl_ForestOk.tab17 impl_ForestOk.bits17 (fun HT_ HW_=> ?_)
      generalize f7.drew=i4 at x A O j HB u c0 c1 hHeld ⊢
      refine pz_ 0 45 17 1 ?_;refine pz_ 1 46 17 3 ?_;refine pz_ 2 47 17 7 ?_;refine pz_ 3 48 17 15 ?_;refine pz_ 5 50 17 47 ?_;refine pz_ 6 51 17 111 ?_;refine pz_ 12 57 17 4207 ?_;refine pz_ 13 58 17 12399 ?_;refine tz4_ 4 49 17 12415 ?_;refine pz_ 7 52 17 12543 ?_;refine tz4_ 8 53 17 12799 ?_;refine tz4_ 14 59 17 29183 ?_
      refine o1_ 9 (some 54) 17 29695 (fun K hK=> ?_)
      refine goes_ Try.func106 (by kernel_rfl) rfl #[.slice A775_0 (rd_L5 a (l)).length c775_0] (by rfl) rfl rfl (by simp only[List.map_toArray,List.map_cons,List.map_nil];first|done|(simp only[B];rfl)|rfl|(simp only[List.length_drop,List.length_take];rfl)) ?_
      with_reducible refine(impl_VertsOf.calls c3 _ _ (rd_L5 a (l)) b8 _ ?side1 ?side2 d8.out).mono ?_
      (case side1=>exact qC_ u HB)
      (case side2=>exact F.out)
      rintro e i5 ⟨i6,rfl,ho0,hb⟩
      have HS3_:=(hb.cell (World.block_lt_of_cell? _ _ (hHeld.2.2.2))).trans (hHeld.2.2.2)
      refine⟨_,rfl,?_⟩
      have e2:=am_ (Kd.R_lower (Kd.R_new' (Kd.R_new' (Kd.R_new' ho0 (Kd.R_lt (qR_ x))) (Kd.R_lt (qR_ A))) (Kd.R_lt (qR_ O))) (below_size qB_));replace x:=ke_ x ho0 hb;replace A:=ke_ A ho0 hb;replace O:=ke_ O ho0 hb;replace j:=qbl_ j hb;replace HB:=hs_ hb;clear hb ho0
      obtain⟨n5,n6,g9⟩:=Kd.R_slice e2.out
      (first|subst g9|(injection g9 with b1 c7 b2;have c8:=b1.symm;have c9:=b2.symm;clear b1 c7 b2;subst c8;subst c9))
      have J:0≤(0:Int):=(by omega)
      have L:=dl_ 0 b8.length
      obtain⟨d0,b3,e3⟩:=Kd.at_int (Kd.R_reads' e2.out).2.2 0 J L
      cases b3
      have qi779:(0<b8.length)=True:=eq_true (by omega)
      rw[show((0:Int)).toNat=0 from rfl]at e3
      rw[Addr.add_zero']at e3
      replace J:=eq_true J;replace L:=eq_true L
      refine hK.out _ _ ⟨bl_ j 0,bl_ j 1,((qx_ HB e1).trans rfl),HS3_⟩ (fun hHeld=> ?_)
      clear hK K
      refine nm_ 54 ?_
      refine pz_ 10 55 17 30719 ?_
      refine now_x33 (i:=11) (N:=some 56) (v:= ?_) (a' := ?_) (bm 17 32767) rfl rfl (one_of HT_.out (by kernel_rfl)) (by decide) (Or.inl ⟨by rfl,?_⟩) hHeld ?_ ?_
      rotate_left
      ·rintro w' rfl
       go_simp
       with_reducible rfl
      rotate_left
      ·simp only[Act.put,sA_,sB_,sC_,i64_w,i32_w]
       rfl
      refine pz_ 15 60 17 65535 ?_;refine pz_ 16 61 17 131071 ?_
      refine done_ (done_of HT_.out (by kernel_rfl)) ?_
      try go_wp2
      go_ret
      exact⟨by first|rfl|(simp [errW_none,errW_some]<;>rfl)|(simp only[←B];first|rfl|(simp [errW_none,errW_some]<;>rfl))|(simp [*,errW_none,errW_some]<;>rfl),qB_⟩
     have c6:decide ((rd m 0)≤(rd b8 0))=false:=decide_eq_false b9
     clear b9;have H' :=am_ H;clear H
     try go_wp2_with (first|((with_reducible refine gate_builtin (b:= .append) (xs:= #[.tmp 42,.tmp 43]) rfl ?_);at_builtin;refine Kd.R_append_rows (Kd.int .i64) (w0:=w) w.heap.size rfl (.tmp 42) (.tmp 43) 51 3 (.int .i64 0) 8 rfl Try.underlying51 info3 rfl (by decide) (by omega) u3 o m _ _ _ (fun k_=>some k_≠(.slice b4 m.length b5:Value).ownBlock∧some k_≠(.slice b4 m.length b5:Value).ownBlock) (fun _=>False) rfl rfl ?aO ?aR (fun _ _ h=>h) (fun _ h=>h.elim) ?aF ?aB ?aS ?aL ?_;(case aR=>repeat(first|exact(Kd.R_reads' x.out).2.2|(with_reducible refine Kd.C_alloc ?_ _)|(with_reducible refine Kd.C_drewN ?_ _)|(with_reducible refine Kd.C_drew ?_)));(case aB=>exact qB_);(case aF=>exact(fun k_ hk=>⟨Kd.fresh' (Kd.R_lt (qR_ x)) k_ hk,Kd.fresh' (Kd.R_lt (qR_ A)) k_ hk⟩));(case aO=>exact(qR_ E));(case aS=>exact(below_size qB_));(case aL=>have:=Y.out;omega);intro g8 f8 ho hb hg hat;rw[←Z.out]at ho;have O:=am_ (ho);replace x:=am_ (Kd.R_after (ok:=(fun _=>True)) (by(with_reducible repeat(first|apply Kd.R_alloc|apply Kd.R_drewN|apply Kd.R_drew));exact Kd.R_mono x.out (fun _ hk=>⟨trivial,hk⟩)) hg hat);replace A:=am_ (Kd.R_after (ok:=(fun _=>True)) (by(with_reducible repeat(first|apply Kd.R_alloc|apply Kd.R_drewN|apply Kd.R_drew));exact Kd.R_mono A.out (fun _ hk=>⟨trivial,hk⟩)) hg hat);replace j:=am_ (blk_grown (qk_ j) hg (Kd.R_ne E.out j.out (by decide)));replace HB:=am_ (hb);clear E ho hb hg hat))
     replace x:=rd_ x;replace A:=rd_ A;replace O:=rd_ O;replace j:=bd_ j;replace HB:=hd_ HB
     have a7:=dt_ ((l))
     have a8:=du_ (l) a.length
     obtain⟨a0,A775_0,c775_0,a9,c0,s,hi775_0⟩:=at_L5 M.out (l) (ot_ a7) (ot_ a8)
     have e1:=c0
     obtain rfl:p=a0:=(by injection a9)
     replace c0:=qx_ HB c0
     have u:=am_ hi775_0
     have F:=am_ s
     clear hi775_0 s
     have G:0≤(0:Int):=(by omega)
     have I:=dl_ 0 m.length
     obtain⟨a1,b0,c1⟩:=Kd.at_int (Kd.R_reads' x.out).2.2 0 G I
     cases b0
     have qi780:(0<m.length)=True:=eq_true (by omega)
     rw[show((0:Int)).toNat=0 from rfl]at c1
     rw[Addr.add_zero']at c1
     replace G:=eq_true G;replace I:=eq_true I
     refine start_ (n:=17) (S:=fun w' =>w'.cell? ⟨c2,0,none⟩=some (.int .i64 g)∧w'.cell? ⟨c2,1,none⟩=some (.slice (some p) a.length D)∧w'.cell? (p.add ((l)).toNat)=some (.slice A775_0 (rd_L5 a (l)).length c775_0)∧w'.cell? a1=some (.int .i64 (rd m 0))) (ds:=[]) (bm 17 0) (by kernel_rfl) rfl (by kernel_rfl) ⟨bl_ j 0,bl_ j 1,((qx_ HB e1).trans rfl),c1⟩ (fun hHeld=> ?_);refine with_tabW impl_ForestOk.tab17 impl_ForestOk.bits17 (fun HT_ HW_=> ?_)
     generalize f8.drew=i7 at x A O j HB u c0 c1 hHeld ⊢
     refine pz_ 0 45 17 1 ?_;refine pz_ 1 46 17 3 ?_;refine pz_ 2 47 17 7 ?_;refine pz_ 3 48 17 15 ?_;refine pz_ 5 50 17 47 ?_;refine pz_ 6 51 17 111 ?_;refine pz_ 12 57 17 4207 ?_;refine pz_ 13 58 17 12399 ?_;refine tz4_ 4 49 17 12415 ?_;refine pz_ 7 52 17 12543 ?_;refine tz4_ 8 53 17 12799 ?_;refine tz4_ 14 59 17 29183 ?_
     refine o1_ 9 (some 54) 17 29695 (fun K hK=> ?_)
     refine goes_ Try.func106 (by kernel_rfl) rfl #[.slice A775_0 (rd_L5 a (l)).length c775_0] (by rfl) rfl rfl (by simp only[List.map_toArray,List.map_cons,List.map_nil];first|done|(simp only[B];rfl)|rfl|(simp only[List.length_drop,List.length_take];rfl)) ?_
     with_reducible refine(impl_VertsOf.calls c3 _ _ (rd_L5 a (l)) b8 _ ?side1 ?side2 d8.out).mono ?_
     (case side1=>exact qC_ u HB)
     (case side2=>exact F.out)
     rintro e i8 ⟨i6,rfl,ho0,hb⟩
     have HS3_:=(hb.cell (World.block_lt_of_cell? _ _ (hHeld.2.2.2))).trans (hHeld.2.2.2)
     refine⟨_,rfl,?_⟩
     have e2:=am_ (Kd.R_lower (Kd.R_new' (Kd.R_new' (Kd.R_new' ho0 (Kd.R_lt (qR_ x))) (Kd.R_lt (qR_ A))) (Kd.R_lt (qR_ O))) (below_size qB_));replace x:=ke_ x ho0 hb;replace A:=ke_ A ho0 hb;replace O:=ke_ O ho0 hb;replace j:=qbl_ j hb;replace HB:=hs_ hb;clear hb ho0
     obtain⟨n7,n8,h0⟩:=Kd.R_slice e2.out
     (first|subst h0|(injection h0 with b1 c7 b2;have c8:=b1.symm;have c9:=b2.symm;clear b1 c7 b2;subst c8;subst c9))
     have J:0≤(0:Int):=(by omega)
     have L:=dl_ 0 b8.length
     obtain⟨d0,b3,e3⟩:=Kd.at_int (Kd.R_reads' e2.out).2.2 0 J L
     cases b3
     have qi779:(0<b8.length)=True:=eq_true (by omega)
     rw[show((0:Int)).toNat=0 from rfl]at e3
     rw[Addr.add_zero']at e3
     replace J:=eq_true J;replace L:=eq_true L
     refine hK.out _ _ ⟨bl_ j 0,bl_ j 1,((qx_ HB e1).trans rfl),HS3_⟩ (fun hHeld=> ?_)
     clear hK K
     refine nm_ 54 ?_
     refine pz_ 10 55 17 30719 ?_
     refine now_x33 (i:=11) (N:=some 56) (v:= ?_) (a' := ?_) (bm 17 32767) rfl rfl (one_of HT_.out (by kernel_rfl)) (by decide) (Or.inl ⟨by rfl,?_⟩) hHeld ?_ ?_
     rotate_left
     ·rintro w' rfl
      go_simp
      with_reducible rfl
     rotate_left
     ·simp only[Act.put,sA_,sB_,sC_,i64_w,i32_w]
      rfl
     refine pz_ 15 60 17 65535 ?_;refine pz_ 16 61 17 131071 ?_
     refine done_ (done_of HT_.out (by kernel_rfl)) ?_
     try go_wp2
     go_roundg c3
     case measure=>have:=HK1.out;have:=HK2.out;omega
     case rel=>exact⟨(g7),(wrap64 (c + 1)),qe_,H',⟨by have:=HK1.out;have:=HK2.out;omega⟩,⟨by(with_reducible repeat(first|apply Kd.R_alloc|apply Kd.R_drewN|apply Kd.R_drew));exact Kd.R_mono O.out (fun _ hk=>trivial)⟩,⟨qk_ j⟩,⟨qB_⟩⟩
end Go.Proofs.Ytbkklafkoegdpaa.QFnLevels

import Derived.Test.YtbkklafkoegdpaaQFnTakesx1
import Derived.Test.YtbkklafkoegdpaaQFnTakesx9
namespace Go.Proofs.Ytbkklafkoegdpaa.QFnTakes
open Go.RowKit Go.Proofs.YtbkklafkoegdpaaW.PrintWords Go.Proofs.YtbkklafkoegdpaaW.PrintLast Go.Proofs.YtbkklafkoegdpaaW.PrintMore
set_option maxHeartbeats 8000000
set_option maxRecDepth 100000
set_option linter.unusedVariables false
set_option linter.unusedSimpArgs false
attribute [local go_sem high] eqA43
def spec_GraphOk.f (k:Nat) (a0_0:Int) (l0_1:List (S43)):Option (Bool):=(spec_l01In.f a0_0 1 12).bind fun t224=>(if t224=true then ((spec_l05Edges.f k a0_0 l0_1).bind fun t225=>(some t225)) else (some false))
theorem spec_GraphOk.calls (k:Nat) (a:Int) (d:Option Addr) (g:Nat) (c:List (S43)) (r:Bool) (w:World) (hr0_1:Kd.C k43 w d c.length c) (hc0_1:c.length≤g) (h:spec_GraphOk.f k a c=some r):
  Calls Try.prog 56 #[.agg #[.int .i64 a,.slice d c.length g]] w fun e w' =>e= .returned (.bool r)∧Below w.heap.size w w' :=by
 have hu69:=Try.underlying69
 have i:=am_ hr0_1
 have j:=am_ hc0_1
 clear hr0_1 hc0_1
 have HB:=am_ (Below.refl w.heap.size w)
 rw[spec_GraphOk.f]at h;have H:=h;clear h
 obtain⟨s,m,H⟩:=bs_ H
 refine ie_ H ?_ ?_<;>clear H<;>rintro rfl H
 ·obtain⟨n,o,H⟩:=bs_ H
  obtain rfl:=oi_ H
  go_enter Try.func56,Try.ntmps56
  go_wp2_with (first|((with_reducible refine gd_ 1 ?_);refine by_ 1 (cs:= #[.int .i64 a,.slice d c.length g]) (t:=69) ?_;intro p hg u l hb;have q:=gw_ hg;replace HB:=hs_ hb;clear hb hg;obtain⟨v,x,y,z⟩:=bc2_ l)|((with_reducible refine gc_ 57 ?_);refine gl_ (some 5) Try.func57 #[.int .i64 a,.int .i64 1,.int .i64 12] ?_;(with_reducible refine(spec_l01In.calls a 1 12 true _ m.out).mono ?_);rintro e w' ⟨rfl,⟨nd,rfl⟩⟩;refine⟨_,rfl,?_⟩)|(go_at_call 107;(with_reducible refine(spec_l05Edges.calls k a _ _ c n _ ?side1 ?side2 o.out).mono ?_);(case side1=>repeat(first|exact(Kd.C_below i.out qB_)|(with_reducible refine Kd.C_alloc ?_ _)|(with_reducible refine Kd.C_drewN ?_ _)|(with_reducible refine Kd.C_drew ?_)));(case side2=>exact j.out);rintro e A ⟨rfl,hb⟩;replace l:=qbl_ l hb;replace HB:=hs_ hb;clear hb))
  go_ret
  exact⟨qr_,qB_⟩
 obtain rfl:=oi_ H
 go_enter Try.func56,Try.ntmps56
 go_wp2_with (first|((with_reducible refine gd_ 1 ?_);refine by_ 1 (cs:= #[.int .i64 a,.slice d c.length g]) (t:=69) ?_;intro p hg B l hb;have q:=gw_ hg;replace HB:=hs_ hb;clear hb hg;obtain⟨D,E,F,G⟩:=bc2_ l)|((with_reducible refine gc_ 57 ?_);refine gl_ (some 5) Try.func57 #[.int .i64 a,.int .i64 1,.int .i64 12] ?_;(with_reducible refine(spec_l01In.calls a 1 12 false _ m.out).mono ?_);rintro e w' ⟨rfl,⟨nd,rfl⟩⟩;refine⟨_,rfl,?_⟩))
 go_ret
 exact⟨qr_,qB_⟩
def spec_l05In.l0:Nat→List Int→Int→Int→Option (Bool)
  |0,_,_,_=>none
  |k + 1,x0,x1,x5=>if x5<(x0.length:Int) then (if 0≤x5 then (if (rd x0 x5)=x1 then (some true) else (spec_l05In.l0 k x0 x1 (wrap64 (x5 + 1)))) else (none)) else (some false)
def spec_l05In.f (k:Nat) (l0:List Int) (a1:Int):Option (Bool):=spec_l05In.l0 k l0 a1 0
theorem spec_l05In.calls (k:Nat) (o:Option Addr) (p:Nat) (l0:List Int) (i:Int) (r:Bool) (w:World) (hr0:Kd.C (Kd.int .i64) w o l0.length l0) (hc0:l0.length≤p) (h:spec_l05In.f k l0 i=some r):
  Calls Try.prog 105 #[.slice o l0.length p,.int .i64 i] w fun e w' =>e= .returned (.bool r)∧Drawn0 w w' :=by
 have q:=am_ hr0
 have x:=am_ hc0
 clear hr0 hc0
 rw[spec_l05In.f]at h;have H:=h;clear h;have H' :=am_ H;clear H
 go_enter Try.func105,Try.ntmps105
 go_wp2
 go_loopg [5] k (fun kq v5 w' =>∃ (a:Int),v5= .int .i64 a∧Aside0 (spec_l05In.l0 kq l0 i a=some r)∧Aside0 (kq≤k)∧Drawn0 w w')
 case atStart=>exact⟨(0),qe_,H',⟨Nat.le_refl _⟩,by repeat(first|exact Drawn0.refl _|apply Drawn0.step)⟩
 case round=>
  clear H'
  obtain⟨a,rfl,HA,HK1,⟨A,rfl⟩⟩:=hrel
  cases gk with
  |zero=>exact absurd HA.out (by simp [spec_l05In.l0])
  |succ u=>
   have H:=HA.out;clear HA
   simp only[spec_l05In.l0]at H
   refine ib_ H ?_ ?_<;>clear H<;>intro s H
   ·obtain rfl:=oi_ H
    go_wp2
    go_ret
    exact⟨by first|rfl|(simp;done)|(simp [*];done),by repeat(first|exact Drawn0.refl _|apply Drawn0.step)⟩
   refine ig_ H ?_;clear H;intro t H
   refine jc_ H ?_ ?_<;>clear H<;>intro l H
   ·have m:((rd l0 a)==i)=true:=beq_iff_eq.mpr l
    have n:((rd l0 a) != i)=false:=bne_eq_false_iff_eq.mpr l
    clear l
    obtain rfl:=oi_ H
    have c:=dt_ a
    have d:=du_ a l0.length
    obtain⟨j,g,v⟩:=Kd.at_int q.out a (ot_ c) (ot_ d)
    cases g
    go_wp2
    go_ret
    exact⟨by first|rfl|(simp;done)|(simp [*];done),by repeat(first|exact Drawn0.refl _|apply Drawn0.step)⟩
   have m:((rd l0 a)==i)=false:=beq_eq_false_iff_ne.mpr l
   have n:((rd l0 a) != i)=true:=bne_iff_ne.mpr l
   have H' :=am_ H;clear H
   have c:=dt_ a
   have d:=du_ a l0.length
   obtain⟨j,g,v⟩:=Kd.at_int q.out a (ot_ c) (ot_ d)
   cases g
   go_wp2
   go_roundg u
   case measure=>have:=HK1.out;omega
   case rel=>exact⟨(wrap64 (a + 1)),qe_,H',⟨by have:=HK1.out;omega⟩,by repeat(first|exact Drawn0.refl _|apply Drawn0.step)⟩
def spec_l08Tree.l0:Nat→Int→List (S43)→Int→Int→List (S72)→Option ((List (S43)))
  |0,_,_,_,_,_=>none
  |k + 1,x1,x5,x6,x228000,x228001=>if x6<(x228001.length:Int) then (if 0≤x6 then (if (rd_T72 x228001 x6).f3=true then (if ((rd_T72 x228001 x6).f2)≥x1 then (if x5.length<8796093022208 then (spec_l08Tree.l0 k x1 (x5++[(⟨(rd_T72 x228001 x6).f0,(rd_T72 x228001 x6).f1⟩:S43)]) (wrap64 (x6 + 1)) x228000 x228001) else (none)) else (spec_l08Tree.l0 k x1 x5 (wrap64 (x6 + 1)) x228000 x228001)) else (spec_l08Tree.l0 k x1 x5 (wrap64 (x6 + 1)) x228000 x228001)) else (none)) else (some x5)
def spec_l08Tree.f (k:Nat) (a0_0:Int) (l0_1:List (S72)) (a1:Int):Option ((List (S43))):=spec_l08Tree.l0 k a1 (([]:List (S43))) 0 a0_0 l0_1
theorem spec_l08Tree.calls (k:Nat) (j:Int) (x:Option Addr) (l:Nat) (c:List (S72)) (V:Int) (r:List (S43)) (w:World) (hr0_1:Kd.C k72 w x c.length c) (hc0_1:c.length≤l) (h:spec_l08Tree.f k j c V=some r):
  Calls Try.prog 108 #[.agg #[.int .i64 j,.slice x c.length l],.int .i64 V] w fun e w' =>∃ X:Value,e= .returned (X)∧Kd.R k43 43 w' w.heap.size (fun _=>True) X r∧Below w.heap.size w w' :=by
 have hu29:=Try.underlying29;have hu72:=Try.underlying72;have hu43:=Try.underlying43
 have s:=am_ hr0_1
 have a0:=am_ hc0_1
 clear hr0_1 hc0_1
 have HB:=am_ (Below.refl w.heap.size w)
 rw[spec_l08Tree.f]at h;have H:=h;clear h
 generalize z:(([]:List (S43)))=a7 at H;replace H:=bh_ H;have A:=am_ z.symm;clear z;have H' :=am_ H;clear H
 go_enter Try.func108,Try.ntmps108
 go_wp2_with (first|((with_reducible refine gd_ 2 ?_);refine by_ 2 (cs:= #[.int .i64 j,.slice x c.length l]) (t:=29) ?_;intro a2 hg b6 d hb;have b7:=gw_ hg;replace HB:=hs_ hb;clear hb hg)|((with_reducible refine gd_ 8 ?_);refine Kd.R_lit k43 _ 43 ?hg (N:=8) ?hd (xs:=([]:List (S43))) (inner:=[]) (ok:=fun _=>True) (okp:=fun _=>True) ?hr ?hp (fun _ hk=>hk) trivial (Below.refl _ _) (Nat.le_refl _) (by simp) ?_;(case hd=>rfl);(case hg=>rfl);(case hr=>first|(go_simp;done)|(go_simp;rfl));(case hp=>exact(Reps.none _ _));intro b8 b9 ho5 hb hg_ hnew_;clear hg_ hnew_;(first|rw[←A.out]at ho5|(simp only[Int.reduceToNat]at ho5;rw[←A.out]at ho5));have a8:=am_ (Kd.R_lower ho5 (below_size qB_));replace d:=qbl_ d hb;replace HB:=hs_ hb;clear hb ho5))
 go_loopg [5,6] k (fun kq v5 v6 w' =>∃ (i:List (S43)) (a:Int),v6= .int .i64 a∧Aside0 (spec_l08Tree.l0 kq V i a j c=some r)∧Aside0 (kq≤k)∧Aside0 (Kd.R k43 43 w' w.heap.size (fun _=>True) v5 i)∧Aside0 (w'.heap[a2]? =some (.cells #[.int .i64 j,(.slice x c.length l)] 29 (0,0)))∧Aside0 (Below w.heap.size w w'))
 case atStart=>exact⟨(a7),(0),qe_,H',⟨Nat.le_refl _⟩,⟨ra_ a8⟩,⟨qk_ d⟩,⟨qB_⟩⟩
 case round=>
  clear H'
  obtain⟨i,a,rfl,HA,HK1,y,d,HB⟩:=hrel
  cases gk with
  |zero=>exact absurd HA.out (by simp [spec_l08Tree.l0])
  |succ a1=>
   have H:=HA.out;clear HA
   simp only[spec_l08Tree.l0]at H
   refine ib_ H ?_ ?_<;>clear H<;>intro a3 H
   ·obtain rfl:=oi_ H
    obtain⟨c2,c3,c4,c5⟩:=bc2_ d
    go_wp2
    go_ret
    exact⟨_,qr_,qR_ y,qB_⟩
   refine ig_ H ?_;clear H;intro a4 H
   generalize I:((rd_T72 c a).f3)=a9 at H;have B:=am_ I.symm;clear I
   refine id_ H ?_ ?_<;>clear H<;>rintro rfl H
   ·have H' :=am_ H;clear H
    obtain⟨c6,c7,c8,c9⟩:=bc2_ d
    have m:=dt_ a
    have n:=du_ a c.length
    obtain⟨u,q,J,L,M,D⟩:=at_T72 s.out a (ot_ m) (ot_ n)
    rw[←B.out]at D
    cases q
    replace J:=qx_ HB J
    replace L:=qx_ HB L
    replace M:=qx_ HB M
    replace D:=qx_ HB D
    go_wp2_with (first|((with_reducible refine gd_ 7 ?_);refine by_ 7 (cs:= #[.int .i64 0,.int .i64 0,.int .i64 0,.bool false]) (t:=72) ?_;intro v hg b0 E hb;have a5:=gw_ hg;obtain⟨a6,Y⟩:=qn_ d hg;replace y:=kb_ y hb;replace d:=qbl_ d hb;replace HB:=hs_ hb;clear hb hg;obtain⟨d0,d1⟩:=nn_ Y;obtain⟨d2,d3,d4,d5,d6,d7,d8,d9⟩:=bc4_ E))
    go_roundg a1
    case measure=>have:=HK1.out;omega
    case rel=>exact⟨(i),(wrap64 (a + 1)),qe_,H',⟨by have:=HK1.out;omega⟩,⟨by(with_reducible repeat(first|apply Kd.R_alloc|apply Kd.R_drewN|apply Kd.R_drew));exact Kd.R_mono (Kd.R_far (p:=⟨v,3,none⟩) (Kd.R_far (p:=⟨v,2,none⟩) (Kd.R_far (p:=⟨v,1,none⟩) (Kd.R_far (p:=⟨v,0,none⟩) (Kd.R_types y.out E.out (by decide)) (fun _ hk=>hk.2) (.int .i64 ((rd_T72 c a).f0))) (fun _ hk=>hk.2) (.int .i64 ((rd_T72 c a).f1))) (fun _ hk=>hk.2) (.int .i64 ((rd_T72 c a).f2))) (fun _ hk=>hk.2) (.bool false)) (fun _ hk=>trivial)⟩,⟨qf_ d⟩,⟨qB_⟩⟩
   refine jb_ H ?_ ?_<;>clear H<;>intro G H
   ·have O:decide (V≤((rd_T72 c a).f2))=false:=decide_eq_false G
    clear G;have H' :=am_ H;clear H
    obtain⟨e0,e1,e2,e3⟩:=bc2_ d
    have m:=dt_ a
    have n:=du_ a c.length
    obtain⟨u,q,J,L,M,D⟩:=at_T72 s.out a (ot_ m) (ot_ n)
    rw[←B.out]at D
    cases q
    replace J:=qx_ HB J
    replace L:=qx_ HB L
    replace M:=qx_ HB M
    replace D:=qx_ HB D
    go_wp2_with (first|((with_reducible refine gd_ 7 ?_);refine by_ 7 (cs:= #[.int .i64 0,.int .i64 0,.int .i64 0,.bool false]) (t:=72) ?_;intro v hg b1 E hb;have a5:=gw_ hg;obtain⟨a6,Y⟩:=qn_ d hg;replace y:=kb_ y hb;replace d:=qbl_ d hb;replace HB:=hs_ hb;clear hb hg;obtain⟨e4,e5⟩:=nn_ Y;obtain⟨e6,e7,e8,e9,f4,f5,f6,f7⟩:=bc4_ E))
    go_roundg a1
    case measure=>have:=HK1.out;omega
    case rel=>exact⟨(i),(wrap64 (a + 1)),qe_,H',⟨by have:=HK1.out;omega⟩,⟨by(with_reducible repeat(first|apply Kd.R_alloc|apply Kd.R_drewN|apply Kd.R_drew));exact Kd.R_mono (Kd.R_far (p:=⟨v,3,none⟩) (Kd.R_far (p:=⟨v,2,none⟩) (Kd.R_far (p:=⟨v,1,none⟩) (Kd.R_far (p:=⟨v,0,none⟩) (Kd.R_types y.out E.out (by decide)) (fun _ hk=>hk.2) (.int .i64 ((rd_T72 c a).f0))) (fun _ hk=>hk.2) (.int .i64 ((rd_T72 c a).f1))) (fun _ hk=>hk.2) (.int .i64 ((rd_T72 c a).f2))) (fun _ hk=>hk.2) (.bool true)) (fun _ hk=>trivial)⟩,⟨qf_ d⟩,⟨qB_⟩⟩
   have O:decide (V≤((rd_T72 c a).f2))=true:=decide_eq_true G
   clear G
   refine jg_ H ?_;clear H;intro Z H
   have T:=am_ Z
   clear Z
   generalize F:(i++[(⟨(rd_T72 c a).f0,(rd_T72 c a).f1⟩:S43)])=b2 at H;replace H:=bh_ H;have U:=am_ F.symm;clear F;have H' :=am_ H;clear H
   obtain⟨f8,f9,g0,g1⟩:=bc2_ d
   have m:=dt_ a
   have n:=du_ a c.length
   obtain⟨u,q,J,L,M,D⟩:=at_T72 s.out a (ot_ m) (ot_ n)
   rw[←B.out]at D
   cases q
   replace J:=qx_ HB J
   replace L:=qx_ HB L
   replace M:=qx_ HB M
   replace D:=qx_ HB D
   go_wp2_with (first|((with_reducible refine gd_ 7 ?_);refine by_ 7 (cs:= #[.int .i64 0,.int .i64 0,.int .i64 0,.bool false]) (t:=72) ?_;intro v hg b3 E hb;have a5:=gw_ hg;obtain⟨a6,Y⟩:=qn_ d hg;replace y:=kb_ y hb;replace d:=qbl_ d hb;replace HB:=hs_ hb;clear hb hg;obtain⟨g2,g3⟩:=nn_ Y;obtain⟨g4,g5,g6,g7,g8,g9,h0,h1⟩:=bc4_ E)|((with_reducible refine gate_builtin (b:= .append) (xs:= #[.tmp 29,.tmp 35]) rfl ?_);at_builtin;refine Kd.R_append k43 (w0:=w) w.heap.size rfl (.tmp 29) (.tmp 35) 67 43 (.agg #[(.int .i64 0),(.int .i64 0)]) 16 rfl Try.underlying67 info43 rfl (by decide) (by omega) u5 i (⟨(rd_T72 c a).f0,(rd_T72 c a).f1⟩:S43) [.int .i64 ((rd_T72 c a).f0),.int .i64 ((rd_T72 c a).f1)] (fun _=>True) (fun _=>False) rfl (by first|(go_simp;done)|(go_simp;rfl)) ?aP (fun _ hk=>hk.elim) ?aF ?aO ?aB ?aS ?aL ?_;(case aP=>exact k43_mkM _ _ _ (⟨(rd_T72 c a).f0,(rd_T72 c a).f1⟩:S43));(case aB=>exact qB_);(case aF=>exact(fun _ _=>trivial));(case aO=>exact(by(with_reducible repeat(first|apply Kd.R_alloc|apply Kd.R_drewN|apply Kd.R_drew));exact Kd.R_mono (Kd.R_far (p:=⟨v,3,none⟩) (Kd.R_far (p:=⟨v,2,none⟩) (Kd.R_far (p:=⟨v,1,none⟩) (Kd.R_far (p:=⟨v,0,none⟩) (Kd.R_types y.out E.out (by decide)) (fun _ hk=>hk.2) (.int .i64 ((rd_T72 c a).f0))) (fun _ hk=>hk.2) (.int .i64 ((rd_T72 c a).f1))) (fun _ hk=>hk.2) (.int .i64 ((rd_T72 c a).f2))) (fun _ hk=>hk.2) (.bool true)) (fun _ hk=>trivial)));(case aS=>exact(below_size qB_));(case aL=>have:=T.out;omega);intro h2 b4 ho hb hg hat;rw[←U.out]at ho;have b5:=am_ (ho);replace d:=am_ (blk_grown (g:=a2) (o:= .cells #[.int .i64 j,.slice (some u) c.length l] 29 (0,0)) (qf_ d) hg (Kd.R_ne y.out d.out (by decide)));replace E:=am_ (blk_grown (g:=v) (o:= .cells #[.int .i64 ((rd_T72 c a).f0),.int .i64 ((rd_T72 c a).f1),.int .i64 ((rd_T72 c a).f2),.bool true] 72 (0,0)) (qp_ E) hg (Kd.R_ne y.out E.out (by decide)));replace HB:=am_ (hb);clear y ho hb hg hat))
   go_roundg a1
   case measure=>have:=HK1.out;omega
   case rel=>exact⟨(b2),(wrap64 (a + 1)),qe_,H',⟨by have:=HK1.out;omega⟩,⟨ra_ b5⟩,⟨qk_ d⟩,⟨qB_⟩⟩
def spec_l05Has.l0:Nat→List (S43)→Int→Int→Int→Option (Bool)
  |0,_,_,_,_=>none
  |k + 1,x0,x5,x237000,x237001=>if x5<(x0.length:Int) then (if 0≤x5 then (if (((rd_T43 x0 x5).f0)==x237000&&(((rd_T43 x0 x5).f1)==x237001))=true then (some true) else (spec_l05Has.l0 k x0 (wrap64 (x5 + 1)) x237000 x237001)) else (none)) else (some false)
def spec_l05Has.f (k:Nat) (l0:List (S43)) (a1_0:Int) (a1_1:Int):Option (Bool):=spec_l05Has.l0 k l0 0 a1_0 a1_1
theorem spec_l05Has.calls (k:Nat) (v:Option Addr) (x:Nat) (l0:List (S43)) (c:Int) (d:Int) (r:Bool) (w:World) (hr0:Kd.C k43 w v l0.length l0) (hc0:l0.length≤x) (h:spec_l05Has.f k l0 c d=some r):
  Calls Try.prog 101 #[.slice v l0.length x,.agg #[.int .i64 c,.int .i64 d]] w fun e w' =>e= .returned (.bool r)∧Below w.heap.size w w' :=by
 have hu43:=Try.underlying43
 have y:=am_ hr0
 have I:=am_ hc0
 clear hr0 hc0
 have HB:=am_ (Below.refl w.heap.size w)
 rw[spec_l05Has.f]at h;have H:=h;clear h;have H' :=am_ H;clear H
 go_enter Try.func101,Try.ntmps101
 go_wp2_with (first|((with_reducible refine gd_ 3 ?_);refine by_ 3 (cs:= #[.int .i64 c,.int .i64 d]) (t:=43) ?_;intro z hg E n hb;have F:=gw_ hg;replace HB:=hs_ hb;clear hb hg))
 repeat(go_quiet (fail);try go_wp2_with (first|((with_reducible refine gd_ 3 ?_);refine by_ 3 (cs:= #[.int .i64 c,.int .i64 d]) (t:=43) ?_;intro z hg E n hb;have F:=gw_ hg;replace HB:=hs_ hb;clear hb hg)))
 go_loopg [5] k (fun kq v5 w' =>∃ (a:Int),v5= .int .i64 a∧Aside0 (spec_l05Has.l0 kq l0 a c d=some r)∧Aside0 (kq≤k)∧Aside0 (w'.heap[z]? =some (.cells #[.int .i64 c,.int .i64 d] 43 (0,0)))∧Aside0 (Below w.heap.size w w'))
 case atStart=>exact⟨(0),qe_,H',⟨Nat.le_refl _⟩,⟨qk_ n⟩,⟨qB_⟩⟩
 case round=>
  clear H'
  obtain⟨a,rfl,HA,HK1,n,HB⟩:=hrel
  cases gk with
  |zero=>exact absurd HA.out (by simp [spec_l05Has.l0])
  |succ G=>
   have H:=HA.out;clear HA
   simp only[spec_l05Has.l0]at H
   refine ib_ H ?_ ?_<;>clear H<;>intro A H
   ·obtain rfl:=oi_ H
    go_wp2
    repeat(go_quiet (fail);try go_wp2)
    go_ret
    exact⟨qr_,qB_⟩
   refine ig_ H ?_;clear H;intro B H
   refine jc_ H ?_ ?_<;>clear H<;>intro l H
   ·have o:(((rd_T43 l0 a).f0)==c&&(((rd_T43 l0 a).f1)==d))=true:=l
    (have p:decide (((rd_T43 l0 a).f0)=c&&(((rd_T43 l0 a).f1)==d))=true:=by simpa using l)
    (have q:(((rd_T43 l0 a).f0)==c&&(((rd_T43 l0 a).f1)==d))=true:=by simpa using l)
    clear l
    obtain rfl:=oi_ H
    have g:=dt_ a
    have i:=du_ a l0.length
    obtain⟨m,j,s,u⟩:=at_T43 y.out a (ot_ g) (ot_ i)
    cases j
    replace s:=qx_ HB s
    replace u:=qx_ HB u
    obtain⟨M,N,O,R⟩:=bc2_ n
    go_wp2
    repeat(go_quiet (fail);try go_wp2)
    go_ret
    exact⟨qr_,qB_⟩
   have o:(((rd_T43 l0 a).f0)==c&&(((rd_T43 l0 a).f1)==d))=false:=by simpa using l
   (have p:decide (((rd_T43 l0 a).f0)=c&&(((rd_T43 l0 a).f1)==d))=false:=by simpa using l)
   (have q:(((rd_T43 l0 a).f0)==c&&(((rd_T43 l0 a).f1)==d))=false:=by simpa using l)
   (have D:¬(((rd_T43 l0 a).f0)=c&&(((rd_T43 l0 a).f1)==d)):=by simpa using l)
   clear l;have H' :=am_ H;clear H
   have g:=dt_ a
   have i:=du_ a l0.length
   obtain⟨m,j,s,u⟩:=at_T43 y.out a (ot_ g) (ot_ i)
   cases j
   replace s:=qx_ HB s
   replace u:=qx_ HB u
   obtain⟨T,U,V,X⟩:=bc2_ n
   go_wp2
   repeat(go_quiet (fail);try go_wp2)
   go_roundg G
   case measure=>have:=HK1.out;omega
   case rel=>exact⟨(wrap64 (a + 1)),qe_,H',⟨by have:=HK1.out;omega⟩,⟨qk_ n⟩,⟨qB_⟩⟩
end Go.Proofs.Ytbkklafkoegdpaa.QFnTakes

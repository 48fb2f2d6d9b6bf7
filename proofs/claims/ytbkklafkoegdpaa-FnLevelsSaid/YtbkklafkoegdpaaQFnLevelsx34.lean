import Derived.Test.YtbkklafkoegdpaaQFnLevelsx33
namespace Go.Proofs.Ytbkklafkoegdpaa.QFnLevels
open Go.RowKit Go.Proofs.YtbkklafkoegdpaaW.PrintWords Go.Proofs.YtbkklafkoegdpaaW.PrintLast Go.Proofs.YtbkklafkoegdpaaW.PrintMore
set_option maxHeartbeats 8000000
set_option maxRecDepth 100000
set_option linter.unusedVariables false
set_option linter.unusedSimpArgs false
def impl_TreeOf.l0:Nat→Int→List (List Int)→Int→Int→Option (Int)
  |0,_,_,_,_=>none
  |k + 1,x1,x11,x12,x13=>if x13<x12 then (if 0≤x13 then (if x13<(x11.length:Int) then ((impl_hasInt.f k (rd_L5 x11 x13) x1).bind fun t784=>(if t784=true then (some x13) else (impl_TreeOf.l0 k x1 x11 x12 (wrap64 (x13 + 1))))) else (none)) else (none)) else (some (-1))
def impl_TreeOf.f (k:Nat) (a0_0:Int) (l0_1:List (List Int)) (a1:Int):Option (Int):=(impl_ForestOk.f k a0_0 l0_1).bind fun t782=>(if t782=true then (impl_TreeOf.l0 k a1 l0_1 (l0_1.length:Int) 0) else (some (-1)))
theorem impl_TreeOf.calls (k:Nat) (g:Int) (i:Option Addr) (j:Nat) (a:List (List Int)) (v:Int) (r:Int) (w:World) (hr0_1:Kd.C (Kd.slice 3 (Kd.int .i64)) w i a.length a) (hc0_1:a.length≤j) (h:impl_TreeOf.f k g a v=some r):
  Calls Try.prog 77 #[.agg #[.int .i64 g,.slice i a.length j],.int .i64 v] w fun e w' =>e= .returned (.int .i64 r)∧Below w.heap.size w w' :=by
 have hu39:=Try.underlying39
 have n:=am_ hr0_1
 have o:=am_ hc0_1
 clear hr0_1 hc0_1
 have HB:=am_ (Below.refl w.heap.size w)
 rw[impl_TreeOf.f]at h;have H:=h;clear h
 obtain⟨Y,E,H⟩:=bs_ H
 refine id_ H ?_ ?_<;>clear H<;>rintro rfl H
 ·obtain rfl:=oi_ H
  go_enter Try.func77,Try.ntmps77
  go_wp2_with (first|((with_reducible refine gd_ 2 ?_);refine by_ 2 (cs:= #[.int .i64 g,.slice i a.length j]) (t:=39) ?_;intro F hg I p hb;have J:=gw_ hg;replace HB:=hs_ hb;clear hb hg;obtain⟨Z,a0,a1,a2⟩:=bc2_ p)|((with_reducible refine gc_ 75 ?_);refine gl_ (some 8) Try.func75 #[.agg #[.int .i64 g,.slice i a.length j]] ?_;(with_reducible refine(impl_ForestOk.calls k g _ _ a false _ ?_ ?_ E.out).mono ?_);exact qC_ n HB;exact o.out;rintro e L ⟨rfl,hb⟩;refine⟨_,rfl,?_⟩;replace p:=qbl_ p hb;replace HB:=hs_ hb;clear hb))
  go_ret
  exact⟨qr_,qB_⟩
 have H' :=am_ H;clear H
 go_enter Try.func77,Try.ntmps77
 go_wp2_with (first|((with_reducible refine gd_ 2 ?_);refine by_ 2 (cs:= #[.int .i64 g,.slice i a.length j]) (t:=39) ?_;intro F hg a3 p hb;have J:=gw_ hg;replace HB:=hs_ hb;clear hb hg;obtain⟨M,N,O,R⟩:=bc2_ p)|((with_reducible refine gc_ 75 ?_);refine gl_ (some 8) Try.func75 #[.agg #[.int .i64 g,.slice i a.length j]] ?_;(with_reducible refine(impl_ForestOk.calls k g _ _ a true _ ?_ ?_ E.out).mono ?_);exact qC_ n HB;exact o.out;rintro e a4 ⟨rfl,hb⟩;refine⟨_,rfl,?_⟩;replace p:=qbl_ p hb;replace HB:=hs_ hb;clear hb;obtain⟨T,U,V,X⟩:=bc2_ p))
 go_loopg [13] k (fun kq v13 w' =>∃ (c:Int),v13= .int .i64 c∧Aside0 (impl_TreeOf.l0 kq v a (a.length:Int) c=some r)∧Aside0 (kq≤k)∧Aside0 (w'.heap[F]? =some (.cells #[.int .i64 g,(.slice i a.length j)] 39 (0,0)))∧Aside0 (Below w.heap.size w w'))
 case atStart=>exact⟨(0),qe_,H',⟨Nat.le_refl _⟩,⟨qk_ p⟩,⟨qB_⟩⟩
 case round=>
  clear H' M N T U O R V X
  obtain⟨c,rfl,HA,HK1,p,HB⟩:=hrel
  cases gk with
  |zero=>exact absurd HA.out (by simp [impl_TreeOf.l0])
  |succ A=>
   have H:=HA.out;clear HA
   simp only[impl_TreeOf.l0]at H
   refine ib_ H ?_ ?_<;>clear H<;>intro G H
   ·obtain rfl:=oi_ H
    go_wp2
    go_ret
    exact⟨qr_,qB_⟩
   refine ig_ H ?_;clear H;intro B H
   refine ig_ H ?_;clear H;intro D H
   obtain⟨a8,y,H⟩:=bs_ H
   refine ie_ H ?_ ?_<;>clear H<;>rintro rfl H
   ·obtain rfl:=oi_ H
    have q:=dt_ c
    have s:=du_ c a.length
    obtain⟨x,A783_0,c783_0,u,z,d,hi783_0⟩:=at_L5 n.out c (ot_ q) (ot_ s)
    cases u
    replace z:=qx_ HB z
    have l:=am_ hi783_0
    have m:=am_ d
    clear hi783_0 d
    go_wp2_with (first|((with_reducible refine gc_ 120 ?_);refine gl_ (some 20) Try.func120 #[.slice A783_0 (rd_L5 a c).length c783_0,.int .i64 v] ?_;(with_reducible refine(impl_hasInt.calls A _ _ (rd_L5 a c) v true _ ?_ ?_ y.out).mono ?_);exact qC_ l HB;exact m.out;rintro e w' ⟨rfl,⟨nd,rfl⟩⟩;refine⟨_,rfl,?_⟩))
    go_ret
    exact⟨qr_,qB_⟩
   have H' :=am_ H;clear H
   have q:=dt_ c
   have s:=du_ c a.length
   obtain⟨x,A783_0,c783_0,u,z,d,hi783_0⟩:=at_L5 n.out c (ot_ q) (ot_ s)
   cases u
   replace z:=qx_ HB z
   have l:=am_ hi783_0
   have m:=am_ d
   clear hi783_0 d
   go_wp2_with (first|((with_reducible refine gc_ 120 ?_);refine gl_ (some 20) Try.func120 #[.slice A783_0 (rd_L5 a c).length c783_0,.int .i64 v] ?_;(with_reducible refine(impl_hasInt.calls A _ _ (rd_L5 a c) v false _ ?_ ?_ y.out).mono ?_);exact qC_ l HB;exact m.out;rintro e w' ⟨rfl,⟨nd,rfl⟩⟩;refine⟨_,rfl,?_⟩))
   go_roundg A
   case measure=>have:=HK1.out;omega
   case rel=>exact⟨(wrap64 (c + 1)),qe_,H',⟨by have:=HK1.out;omega⟩,⟨qk_ p⟩,⟨qB_⟩⟩
def impl_SizeOf.f (k:Nat) (a0_0:Int) (l0_1:List (List Int)) (a1:Int):Option (Int):=(impl_TreeOf.f k a0_0 l0_1 a1).bind fun t786=>(if t786<0 then (some 0) else (if 0≤t786 then (if t786<(l0_1.length:Int) then ((impl_VertsOf.f k (rd_L5 l0_1 t786)).bind fun t788=>(some (t788.length:Int))) else (none)) else (none)))
theorem impl_SizeOf.calls (k:Nat) (c:Int) (d:Option Addr) (g:Nat) (a:List (List Int)) (q:Int) (r:Int) (w:World) (hr0_1:Kd.C (Kd.slice 3 (Kd.int .i64)) w d a.length a) (hc0_1:a.length≤g) (h:impl_SizeOf.f k c a q=some r):
  Calls Try.prog 53 #[.agg #[.int .i64 c,.slice d a.length g],.int .i64 q] w fun e w' =>e= .returned (.int .i64 r)∧Below w.heap.size w w' :=by
 have hu39:=Try.underlying39
 have j:=am_ hr0_1
 have l:=am_ hc0_1
 clear hr0_1 hc0_1
 have HB:=am_ (Below.refl w.heap.size w)
 rw[impl_SizeOf.f]at h;have H:=h;clear h
 obtain⟨p,z,H⟩:=bs_ H
 refine ic_ H ?_ ?_<;>clear H<;>intro A H
 ·obtain rfl:=oi_ H
  go_enter Try.func53,Try.ntmps53
  go_wp2_with (first|((with_reducible refine gd_ 2 ?_);refine by_ 2 (cs:= #[.int .i64 c,.slice d a.length g]) (t:=39) ?_;intro F hg R o hb;have G:=gw_ hg;replace HB:=hs_ hb;clear hb hg;obtain⟨T,U,V,X⟩:=bc2_ o)|((with_reducible refine gc_ 77 ?_);refine gl_ (some 8) Try.func77 #[.agg #[.int .i64 c,.slice d a.length g],.int .i64 q] ?_;(with_reducible refine(impl_TreeOf.calls k c _ _ a q p _ ?_ ?_ z.out).mono ?_);exact qC_ j HB;exact l.out;rintro e Y ⟨rfl,hb⟩;refine⟨_,rfl,?_⟩;replace o:=qbl_ o hb;replace HB:=hs_ hb;clear hb))
  go_ret
  exact⟨qr_,qB_⟩
 refine ig_ H ?_;clear H;intro B H
 refine ig_ H ?_;clear H;intro D H
 obtain⟨I,x,H⟩:=bs_ H
 obtain rfl:=oi_ H
 go_enter Try.func53,Try.ntmps53
 go_wp2_with (first|((with_reducible refine gd_ 2 ?_);refine by_ 2 (cs:= #[.int .i64 c,.slice d a.length g]) (t:=39) ?_;intro F hg J o hb;have G:=gw_ hg;replace HB:=hs_ hb;clear hb hg;obtain⟨Z,a0,a1,a2⟩:=bc2_ o)|((with_reducible refine gc_ 77 ?_);refine gl_ (some 8) Try.func77 #[.agg #[.int .i64 c,.slice d a.length g],.int .i64 q] ?_;(with_reducible refine(impl_TreeOf.calls k c _ _ a q p _ ?_ ?_ z.out).mono ?_);exact qC_ j HB;exact l.out;rintro e L ⟨rfl,hb⟩;refine⟨_,rfl,?_⟩;replace o:=qbl_ o hb;replace HB:=hs_ hb;clear hb;obtain⟨a3,a4,a5,a6⟩:=bc2_ o;have s:=dt_ p;have u:=du_ p a.length;obtain⟨y,A787_0,c787_0,v,E,i,hi787_0⟩:=at_L5 j.out p (ot_ s) (ot_ u);cases v;replace E:=qx_ HB E;have m:=am_ hi787_0;have n:=am_ i;clear hi787_0 i;)|((with_reducible refine gc_ 106 ?_);refine gl_ (some 16) Try.func106 #[.slice A787_0 (rd_L5 a p).length c787_0] ?_;(with_reducible refine(impl_VertsOf.calls k _ _ (rd_L5 a p) I _ ?_ ?_ x.out).mono ?_);exact qC_ m HB;exact n.out;rintro e M ⟨a7,rfl,ho0,hb⟩;refine⟨_,rfl,?_⟩;have N:=am_ (Kd.R_lower ho0 (below_size qB_));replace o:=qbl_ o hb;replace HB:=hs_ hb;clear hb ho0;obtain⟨a8,a9,O⟩:=Kd.R_slice N.out;subst O))
 go_ret
 exact⟨qr_,qB_⟩
def impl_WebNew.f (a0:Int):Option (Int × (List (S72)) × Bool):=(impl_in.f a0 1 12).bind fun t792=>(if t792=true then (some (a0,([]:List (S72)),true)) else (some (0,([]:List (S72)),false)))
theorem impl_WebNew.calls (g:Int) (n:Int) (o:List (S72)) (p:Bool) (w:World) (h:impl_WebNew.f g=some (n,o,p)):
  Calls Try.prog 54 #[.int .i64 g] w fun e w' =>∃ m:Value,e= .returned (.tuple #[.agg #[.int .i64 n,m],.bool p])∧Kd.R k72 72 w' w.heap.size (fun _=>True) m o∧Below w.heap.size w w' :=by
 have hu29:=Try.underlying29
 have HB:=am_ (Below.refl w.heap.size w)
 have H:((impl_in.f g 1 12).bind fun q=>(if q=true then (some (g,([]:List (S72)),true)) else (some (0,([]:List (S72)),false))))=some (n,o,p):=h
 clear h
 obtain⟨q,s,H⟩:=bs_ H
 refine ie_ H ?_ ?_<;>clear H<;>rintro rfl H
 ·simp only[Option.some.injEq,Prod.mk.injEq]at H
  obtain⟨rfl,rfl,rfl⟩:=H
  go_enter Try.func54,Try.ntmps54
  go_wp2_with (first|((with_reducible refine gd_ 2 ?_);refine by_ 2 (cs:= #[.int .i64 0,.slice none 0 0]) (t:=29) ?_;intro i hg j a hb;have u:=gw_ hg;replace HB:=hs_ hb;clear hb hg)|((with_reducible refine gc_ 66 ?_);refine gl_ (some 5) Try.func66 #[.int .i64 g,.int .i64 1,.int .i64 12] ?_;(with_reducible refine(impl_in.calls g 1 12 true _ s.out).mono ?_);rintro e w' ⟨rfl,⟨nd,rfl⟩⟩;refine⟨_,rfl,?_⟩;((rw[drewN_self j];generalize hq_:World.drewN j _=j;have c:Aside0 (j.heap[i]? =some (.cells #[.int .i64 0,.slice none 0 0] 29 (0,0))):=⟨by rw[←hq_];exact(qk_ a)⟩;have d:Aside0 (Below w.heap.size w j):=⟨by rw[←hq_];exact qB_⟩;clear a HB hq_;have a:=c;have HB:=d;clear c d;have hcr_gb791_0:j.cell? ⟨i,0,none⟩=some (.int .i64 0):=bl_ a 0;have hfr_gb791_0:=blk_frozen a.out 0;have hcr_gb791_1:j.cell? ⟨i,1,none⟩=some (.slice none 0 0):=bl_ a 1;have hfr_gb791_1:=blk_frozen a.out 1));obtain⟨v,x,y,z⟩:=bc2_ a))
  refine bodyPost_ret (results_ct rfl _ _ i 29 #[.int .i64 g,.slice none 0 0] (0,0) _ rfl (qp_ a) Try.underlying29 rfl (by kernel_rfl)) rfl ?_
  exact⟨_,qr_,by first|exact Kd.R_nil _ _ _ _ _|exact Kd.N_nil _ _ _ _ _|exact Kd.V_nil _ _ _ _ _|exact Kd.Q_nil _ _ _ _ _|exact Kd.S_nil _ _ _ _ _,qB_⟩
 simp only[Option.some.injEq,Prod.mk.injEq]at H
 obtain⟨rfl,rfl,rfl⟩:=H
 go_enter Try.func54,Try.ntmps54
 go_wp2_with (first|((with_reducible refine gd_ 2 ?_);refine by_ 2 (cs:= #[.int .i64 0,.slice none 0 0]) (t:=29) ?_;intro i hg l a hb;have u:=gw_ hg;replace HB:=hs_ hb;clear hb hg)|((with_reducible refine gc_ 66 ?_);refine gl_ (some 5) Try.func66 #[.int .i64 g,.int .i64 1,.int .i64 12] ?_;(with_reducible refine(impl_in.calls g 1 12 false _ s.out).mono ?_);rintro e w' ⟨rfl,⟨nd,rfl⟩⟩;refine⟨_,rfl,?_⟩;((rw[drewN_self l];generalize hq_:World.drewN l _=l;have c:Aside0 (l.heap[i]? =some (.cells #[.int .i64 0,.slice none 0 0] 29 (0,0))):=⟨by rw[←hq_];exact(qk_ a)⟩;have d:Aside0 (Below w.heap.size w l):=⟨by rw[←hq_];exact qB_⟩;clear a HB hq_;have a:=c;have HB:=d;clear c d;have hcr_gb791_0:l.cell? ⟨i,0,none⟩=some (.int .i64 0):=bl_ a 0;have hfr_gb791_0:=blk_frozen a.out 0;have hcr_gb791_1:l.cell? ⟨i,1,none⟩=some (.slice none 0 0):=bl_ a 1;have hfr_gb791_1:=blk_frozen a.out 1));obtain⟨A,B,C,D⟩:=bc2_ a))
 refine bodyPost_ret (results_ct rfl _ _ i 29 #[.int .i64 0,.slice none 0 0] (0,0) _ rfl (qp_ a) Try.underlying29 rfl (by kernel_rfl)) rfl ?_
 exact⟨_,qr_,by first|exact Kd.R_nil _ _ _ _ _|exact Kd.N_nil _ _ _ _ _|exact Kd.V_nil _ _ _ _ _|exact Kd.Q_nil _ _ _ _ _|exact Kd.S_nil _ _ _ _ _,qB_⟩
end Go.Proofs.Ytbkklafkoegdpaa.QFnLevels

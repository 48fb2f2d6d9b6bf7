import Derived.Test.YtbkklafkoegdpaaQFnTakesx13
namespace Go.Proofs.Ytbkklafkoegdpaa.QFnTakes
open Go.RowKit Go.Proofs.YtbkklafkoegdpaaW.PrintWords Go.Proofs.YtbkklafkoegdpaaW.PrintLast Go.Proofs.YtbkklafkoegdpaaW.PrintMore
set_option maxHeartbeats 8000000
set_option maxRecDepth 100000
set_option linter.unusedVariables false
set_option linter.unusedSimpArgs false
theorem now_x14 {P:Program} {ops:Array Oper} {Q:Exit→Act→World→Prop} {md:Region.Mode} {S:World→Prop} {ds:List Nat} {i:Nat} {N:Option Tmp} {oi:Oper} {v:Value} {fuel:Nat} {l:Array Bool} {a:Act} {w:World} (l' :Array Bool) (hi:ops[i]? =some oi) (hN:oi.dst=N) (hc:readyB md ops l l' i=true) (hd:i∉ds)
    (hy:YieldsIf P ops (fun w' =>w' =w) oi v a) (hS:S w) {a' :Act} (ha:a.put N v=a')
    (h:wpAnyLast P md ops Q S ds fuel l' a' w):wpAnyLast P md ops Q S ds (fuel + 1) l a w:=by
  subst ha
  refine one_ l' hi hN hc hd (fun K hK=> ?_)
  subst hN
  rcases hy with ⟨hw,hv⟩|⟨hw,rfl⟩
  · simp only[hw,if_true,Oper.wp,hv w rfl,Oper.upon];exact hK.out _ _ hS (fun _=>h)
  · simp only[hw,Bool.false_eq_true,if_false];exact hK.out _ _ hS (fun _=>h)
mutual
def spec_ForestOk.j0:Nat→Bool→Int→List (List Int)→Option (Bool)
  |0,_,_,_=>none
  |k + 1,x17,x333000,x333001=>if x17=true then (some false) else (spec_ForestOk.l0 k 0 0 x333000 x333001)
def spec_ForestOk.l0:Nat→Int→Int→Int→List (List Int)→Option (Bool)
  |0,_,_,_,_=>none
  |k + 1,x3,x4,x333000,x333001=>if x4<(x333001.length:Int) then (if 0≤x4 then ((spec_TourOk.f k (rd_L4 x333001 x4)).bind fun t335=>(if t335=true then ((spec_VertsOf.f k (rd_L4 x333001 x4)).bind fun t337=>(if 0≤(wrap64 ((t337.length:Int) - 1)) then (if (wrap64 ((t337.length:Int) - 1))<(t337.length:Int) then (if (rd t337 (wrap64 ((t337.length:Int) - 1)))≥x333000 then (spec_ForestOk.j2 k (wrap64 (x3 + (t337.length:Int))) x4 t337 true x333000 x333001) else (if x4>0 then (if 0≤(wrap64 (x4 - 1)) then (if (wrap64 (x4 - 1))<(x333001.length:Int) then ((spec_VertsOf.f k (rd_L4 x333001 (wrap64 (x4 - 1)))).bind fun t342=>(if 0<(t342.length:Int) then (if 0<(t337.length:Int) then (spec_ForestOk.j2 k (wrap64 (x3 + (t337.length:Int))) x4 t337 (decide ((rd t342 0)≥(rd t337 0))) x333000 x333001) else (none)) else (none))) else (none)) else (none)) else (spec_ForestOk.j2 k (wrap64 (x3 + (t337.length:Int))) x4 t337 false x333000 x333001))) else (none)) else (none))) else (some false))) else (none)) else (some (x3==x333000))
def spec_ForestOk.j2:Nat→Int→Int→List Int→Bool→Int→List (List Int)→Option (Bool)
  |0,_,_,_,_,_,_=>none
  |k + 1,x3,x4,x5,x69,x333000,x333001=>if x69=true then (some false) else (spec_ForestOk.l1 k x3 x4 x5 0 x333000 x333001)
def spec_ForestOk.l1:Nat→Int→Int→List Int→Int→Int→List (List Int)→Option (Bool)
  |0,_,_,_,_,_,_=>none
  |k + 1,x3,x4,x5,x6,x333000,x333001=>if x6<x4 then (spec_ForestOk.l2 k x3 x4 x5 x6 0 x333000 x333001) else (spec_ForestOk.l0 k x3 (wrap64 (x4 + 1)) x333000 x333001)
def spec_ForestOk.l2:Nat→Int→Int→List Int→Int→Int→Int→List (List Int)→Option (Bool)
  |0,_,_,_,_,_,_,_=>none
  |k + 1,x3,x4,x5,x6,x7,x333000,x333001=>if x7<(x5.length:Int) then (if 0≤x6 then (if x6<(x333001.length:Int) then (if 0≤x7 then ((spec_l05In.f k (rd_L4 x333001 x6) (rd x5 x7)).bind fun t349=>(if t349=true then (some false) else (spec_ForestOk.l2 k x3 x4 x5 x6 (wrap64 (x7 + 1)) x333000 x333001))) else (none)) else (none)) else (none)) else (spec_ForestOk.l1 k x3 x4 x5 (wrap64 (x6 + 1)) x333000 x333001)
end
def spec_ForestOk.f (k:Nat) (a0_0:Int) (l0_1:List (List Int)):Option (Bool):=(spec_l01In.f a0_0 1 12).bind fun t333=>(if t333=true then (spec_ForestOk.j0 k (decide ((l0_1.length:Int)>12)) a0_0 l0_1) else (spec_ForestOk.j0 k true a0_0 l0_1))
def spec_ForestOk.T11:Bool × List (List Nat × List Nat):=(true,[([],[]),([],[]),([1],[1]),([2],[2]),([0,3],[0,3]),([4],[4]),([],[]),([6],[6]),([5,7],[5,7]),([8],[8]),([9],[9]),([10,9],[9,10]),([11,9,9],[9,11]),([12],[12]),([13,12],[12,13]),([12],[12]),([15,12],[12,15]),([14,16,12],[12,14,16]),([17,12],[12,17]),([18,12,12],[12,18]),([19,12],[12,19]),([20,12],[12,20]),([12],[12]),([22,12],[12,22]),([23,12],[12,23]),([21,24,12],[12,21,24]),([12,25,9],[9,12,25]),([9,26],[9,26])])
def spec_ForestOk.B11:List Nat:=[0,0,2,6,15,31,0,64,255,511,1023,2047,4095,8191,16383,8191,40959,131071,262143,524287,1048575,2097151,8191,4202495,12591103,33554431,67108863,134217727]
theorem spec_ForestOk.tab11:rtab .any (opsOf Try.f51 11)=spec_ForestOk.T11:=by kernel_rfl
theorem spec_ForestOk.bits11:waitsOk spec_ForestOk.T11.2 spec_ForestOk.B11=true:=by kernel_rfl
def spec_ForestOk.T19:Bool × List (List Nat × List Nat):=(true,[([],[]),([0],[0]),([],[]),([1,2],[1,2]),([3],[3]),([],[]),([],[]),([5,6],[5,6]),([7],[7]),([4,8],[4,8])])
def spec_ForestOk.B19:List Nat:=[0,1,0,7,15,0,0,96,224,511]
theorem spec_ForestOk.tab19:rtab .any (opsOf Try.f51 19)=spec_ForestOk.T19:=by kernel_rfl
theorem spec_ForestOk.bits19:waitsOk spec_ForestOk.T19.2 spec_ForestOk.B19=true:=by kernel_rfl
theorem spec_ForestOk.calls (k:Nat) (d:Int) (Z:Option Addr) (p:Nat) (a:List (List Int)) (r:Bool) (w:World) (hr0_1:Kd.C (Kd.slice 3 (Kd.int .i64)) w Z a.length a) (hc0_1:a.length≤p) (h:spec_ForestOk.f k d a=some r):
  Calls Try.prog 51 #[.agg #[.int .i64 d,.slice Z a.length p]] w fun e w' =>e= .returned (.bool r)∧Below w.heap.size w w' :=by
 have hu39:=Try.underlying39
 have z:=am_ hr0_1
 have h5:=am_ hc0_1
 clear hr0_1 hc0_1
 have HB:=am_ (Below.refl w.heap.size w)
 rw[spec_ForestOk.f]at h;have H:=h;clear h
 have h6:=am_ H
 clear H
 go_enter Try.func51,Try.ntmps51
 go_upto_region 1 with (first|((with_reducible refine gd_ 1 ?_);((refine gate_guard (by rfl) ?_;dsimp only));refine by_ 1 (cs:= #[.int .i64 d,.slice Z a.length p]) (t:=39) ?_;intro a4 hg n1 j hb;have n2:=gw_ hg;replace HB:=hs_ hb;clear hb hg))
 (try simp only[Act.put,sA_,sB_,sC_])
 go_cut [17] (fun v17 wc=>∃ (kq:Nat) (a5:Bool),v17= .bool a5∧Aside0 (spec_ForestOk.j0 kq a5 d a=some r)∧Aside0 (kq≤k)∧Aside0 (wc.heap[a4]? =some (.cells #[.int .i64 d,(.slice Z a.length p)] 39 (0,0)))∧Aside0 (Below w.heap.size w wc))
 case first=>
  have H:=h6.out;clear h6
  obtain⟨n3,j9,H⟩:=bs_ H
  refine ie_ H ?_ ?_<;>clear H<;>rintro rfl H
  ·have H' :=am_ H;clear H
   obtain⟨k0,k1,k2,k3⟩:=bc2_ j
   go_wp2_with (first|((with_reducible refine gc_ 57 ?_);refine gl_ (some 10) Try.func57 #[.int .i64 d,.int .i64 1,.int .i64 12] ?_;(with_reducible refine(spec_l01In.calls d 1 12 true _ j9.out).mono ?_);rintro e w' ⟨rfl,⟨nd,rfl⟩⟩;refine⟨_,rfl,?_⟩))
   go_meet
   case rel=>exact⟨_,(decide ((a.length:Int)>12)),qe_,H',⟨qo_⟩,⟨qk_ j⟩,⟨qB_⟩⟩
  have H' :=am_ H;clear H
  obtain⟨k4,k5,k6,k7⟩:=bc2_ j
  go_wp2_with (first|((with_reducible refine gc_ 57 ?_);refine gl_ (some 10) Try.func57 #[.int .i64 d,.int .i64 1,.int .i64 12] ?_;(with_reducible refine(spec_l01In.calls d 1 12 false _ j9.out).mono ?_);rintro e w' ⟨rfl,⟨nd,rfl⟩⟩;refine⟨_,rfl,?_⟩))
  go_meet
  case rel=>exact⟨_,(true),qe_,H',⟨qo_⟩,⟨qk_ j⟩,⟨qB_⟩⟩
 case rest=>
  clear h6
  obtain⟨kq,a5,rfl,HA,d6,j,HB⟩:=hcut
  cases kq with
  |zero=>exact absurd HA.out (by simp [spec_ForestOk.j0])
  |succ kj1=>
   have H:=HA.out;clear HA
   simp only[spec_ForestOk.j0]at H
   refine ie_ H ?_ ?_<;>clear H<;>rintro rfl H
   ·obtain rfl:=oi_ H
    go_wp2
    go_ret
    exact⟨qr_,qB_⟩
   have H' :=am_ H;clear H
   go_wp2
   go_loopg [3,4] kj1 (fun kq v3 v4 w' =>∃ (E:Int) (c:Int),v3= .int .i64 E∧v4= .int .i64 c∧Aside0 (spec_ForestOk.l0 kq E c d a=some r)∧Aside0 (kq≤kj1)∧Aside0 (w'.heap[a4]? =some (.cells #[.int .i64 d,(.slice Z a.length p)] 39 (0,0)))∧Aside0 (Below w.heap.size w w'))
   case atStart=>exact⟨(0),(0),qe_,qe_,H',⟨Nat.le_refl _⟩,⟨qk_ j⟩,⟨qB_⟩⟩
   case round=>
    clear H'
    obtain⟨E,c,rfl,rfl,HA,HK2,j,HB⟩:=hrel
    cases gk with
    |zero=>exact absurd HA.out (by simp [spec_ForestOk.l0])
    |succ e9=>
     have H:=HA.out;clear HA
     simp only[spec_ForestOk.l0]at H
     refine ib_ H ?_ ?_<;>clear H<;>intro k8 H
     ·obtain rfl:=oi_ H
      obtain⟨n5,n6,n7,n8⟩:=bc2_ j
      go_wp2
      go_ret
      exact⟨qr_,qB_⟩
     refine ig_ H ?_;clear H;intro h7 H
     obtain⟨n9,f0,H⟩:=bs_ H
     refine id_ H ?_ ?_<;>clear H<;>rintro rfl H
     ·obtain rfl:=oi_ H
      obtain⟨o0,o1,o2,o3⟩:=bc2_ j
      have c0:=dt_ c
      have c1:=du_ c a.length
      obtain⟨g,A334_0,c334_0,c2,f1,s,hi334_0⟩:=at_L4 z.out c (ot_ c0) (ot_ c1)
      cases c2
      replace f1:=qx_ HB f1
      have F:=am_ hi334_0
      have G:=am_ s
      clear hi334_0 s
      go_wp2_with (first|((with_reducible refine gc_ 104 ?_);refine gl_ (some 30) Try.func104 #[.slice A334_0 (rd_L4 a c).length c334_0] ?_;(with_reducible refine(spec_TourOk.calls e9 _ _ (rd_L4 a c) false _ ?_ ?_ f0.out).mono ?_);exact qC_ F HB;exact G.out;rintro e m1 ⟨rfl,hb⟩;refine⟨_,rfl,?_⟩;replace j:=qbl_ j hb;replace HB:=hs_ hb;clear hb))
      go_ret
      exact⟨qr_,qB_⟩
     obtain⟨q,h8,H⟩:=bs_ H
     have h9:=am_ H
     clear H
     obtain⟨o4,o5,o6,o7⟩:=bc2_ j
     have c0:=dt_ c
     have c1:=du_ c a.length
     obtain⟨g,A334_0,c334_0,c2,f1,s,hi334_0⟩:=at_L4 z.out c (ot_ c0) (ot_ c1)
     cases c2
     replace f1:=qx_ HB f1
     have F:=am_ hi334_0
     have G:=am_ s
     clear hi334_0 s
     go_upto_region 11 with (first|((with_reducible refine gc_ 104 ?_);refine gl_ (some 30) Try.func104 #[.slice A334_0 (rd_L4 a c).length c334_0] ?_;(with_reducible refine(spec_TourOk.calls e9 _ _ (rd_L4 a c) true _ ?_ ?_ f0.out).mono ?_);exact qC_ F HB;exact G.out;rintro e m2 ⟨rfl,hb⟩;refine⟨_,rfl,?_⟩;replace j:=qbl_ j hb;replace HB:=hs_ hb;clear hb;obtain⟨o8,o9,p0,p1⟩:=bc2_ j;have f2:=dt_ c;have f3:=du_ c a.length;obtain⟨e1,A336_0,c336_0,f4,k9,a0,hi336_0⟩:=at_L4 z.out c (ot_ f2) (ot_ f3);obtain rfl:g=e1:=(by injection f4);replace k9:=qx_ HB k9;have c3:=am_ hi336_0;have c4:=am_ a0;clear hi336_0 a0;)|((with_reducible refine gc_ 59 ?_);refine gl_ (some 37) Try.func59 #[.slice A336_0 (rd_L4 a c).length c336_0] ?_;(with_reducible refine(spec_VertsOf.calls e9 _ _ (rd_L4 a c) q _ ?_ ?_ h8.out).mono ?_);exact qC_ c3 HB;exact c4.out;rintro e e2 ⟨p2,rfl,ho0,hb⟩;refine⟨_,rfl,?_⟩;have J:=am_ (Kd.R_lower ho0 (below_size qB_));replace j:=qbl_ j hb;replace HB:=hs_ hb;clear hb ho0;obtain⟨i0,i1,m3⟩:=Kd.R_slice J.out;subst m3))
     go_cut [69] (fun v69 wc=>∃ (kq:Nat) (U:Bool),v69= .bool U∧Aside0 (spec_ForestOk.j2 kq (wrap64 (E + (q.length:Int))) c q U d a=some r)∧Aside0 (kq≤e9)∧Aside0 (Kd.R (Kd.int .i64) 3 wc w.heap.size (fun _=>True) (.slice i0 q.length i1) q)∧Aside0 (wc.heap[a4]? =some (.cells #[.int .i64 d,(.slice (some g) a.length p)] 39 (0,0)))∧Aside0 (Below w.heap.size w wc))
     case first=>
      have H:=h9.out;clear h9
      obtain⟨m,a6⟩:∃ j_:Int,(wrap64 ((q.length:Int) - 1))=j_:=⟨_,rfl⟩
      first|rw[a6]at H|simp only[a6]at H
      have hji20w:(IntKind.i64.wrap ((q.length:Int) - 1))=m:=(i64_w _).trans a6
      refine ig_ H ?_;clear H;intro c5 H
      (first|rw[c5]|(simp only[i64_w,i32_w];rw[c5])|skip)
      refine ig_ H ?_;clear H;intro i2 H
      refine jc_ H ?_ ?_<;>clear H<;>intro a7 H
      ·have V:decide (d≤(rd q (m)))=true:=decide_eq_true a7
       clear a7;have H' :=am_ H;clear H
       try go_wp2
       replace J:=rd_ J;replace j:=bd_ j;replace HB:=hd_ HB
       have A:=dt_ ((m))
       have B:=du_ (m) q.length
       obtain⟨y,a1,c6⟩:=Kd.at_int (Kd.R_reads' J.out).2.2 (m) (ot_ A) (ot_ B)
       cases a1
       refine start_ (n:=28) (S:=fun w' =>w'.cell? ⟨a4,0,none⟩=some (.int .i64 d)∧w'.cell? ⟨a4,1,none⟩=some (.slice (some g) a.length p)∧w'.cell? (y.add ((m)).toNat)=some (.int .i64 (rd q (m)))) (ds:=[]) (bm 28 0) (by kernel_rfl) rfl (by kernel_rfl) ⟨bl_ j 0,bl_ j 1,c6⟩ (fun hHeld=> ?_);refine with_tabW spec_ForestOk.tab11 spec_ForestOk.bits11 (fun HT_ HW_=> ?_)
       generalize e2.drew=m4 at J j HB c6 hHeld ⊢
       refine pz_ 0 42 28 1 ?_;refine pz_ 1 43 28 3 ?_;refine pz_ 2 44 28 7 ?_;refine pz_ 3 45 28 15 ?_;refine pz_ 4 46 28 31 ?_;refine pz_ 6 48 28 95 ?_;refine tz3_ 5 47 28 127 ?_;refine tz3_ 7 49 28 255 ?_;refine pz_ 8 50 28 511 ?_;refine pz_ 9 51 28 1023 ?_
       refine pu_ 10 52 28 2047 ?_
       refine pu_ 11 53 28 4095 ?_
       refine pu_ 12 54 28 8191 ?_
       refine pu_ 13 55 28 16383 ?_
       refine pu_ 14 56 28 32767 ?_
       refine pu_ 15 57 28 65535 ?_
       refine pu_ 16 58 28 131071 ?_
       refine pu_ 17 59 28 262143 ?_
       refine pu_ 18 60 28 524287 ?_
       refine pu_ 19 61 28 1048575 ?_
       refine pu_ 20 62 28 2097151 ?_
       refine pu_ 21 63 28 4194303 ?_
       refine pu_ 22 64 28 8388607 ?_
       refine pu_ 23 65 28 16777215 ?_
       refine pu_ 24 66 28 33554431 ?_
       refine pu_ 25 67 28 67108863 ?_
       refine pu_ 26 68 28 134217727 ?_
       refine pz_ 27 69 28 268435455 ?_
       refine done_ (done_of HT_.out (by kernel_rfl)) ?_
       try go_wp2
       go_meet
       case rel=>exact⟨_,(true),qe_,H',⟨by have:=d6.out;have:=HK2.out;first|omega|exact Nat.le_refl _⟩,⟨ra_ J⟩,⟨qk_ j⟩,⟨qB_⟩⟩
      have V:decide (d≤(rd q (m)))=false:=decide_eq_false a7
      clear a7
      refine jb_ H ?_ ?_<;>clear H<;>intro a8 H
      ·have X:decide (0<c)=false:=decide_eq_false a8
       clear a8;have H' :=am_ H;clear H
       try go_wp2
       replace J:=rd_ J;replace j:=bd_ j;replace HB:=hd_ HB
       have A:=dt_ ((m))
       have B:=du_ (m) q.length
       obtain⟨y,a1,c6⟩:=Kd.at_int (Kd.R_reads' J.out).2.2 (m) (ot_ A) (ot_ B)
       cases a1
       refine start_ (n:=28) (S:=fun w' =>w'.cell? ⟨a4,0,none⟩=some (.int .i64 d)∧w'.cell? ⟨a4,1,none⟩=some (.slice (some g) a.length p)∧w'.cell? (y.add ((m)).toNat)=some (.int .i64 (rd q (m)))) (ds:=[]) (bm 28 0) (by kernel_rfl) rfl (by kernel_rfl) ⟨bl_ j 0,bl_ j 1,c6⟩ (fun hHeld=> ?_);refine with_tabW spec_ForestOk.tab11 spec_ForestOk.bits11 (fun HT_ HW_=> ?_)
       generalize e2.drew=m5 at J j HB c6 hHeld ⊢
       refine pz_ 0 42 28 1 ?_;refine pz_ 1 43 28 3 ?_;refine pz_ 2 44 28 7 ?_;refine pz_ 3 45 28 15 ?_;refine pz_ 4 46 28 31 ?_;refine pz_ 6 48 28 95 ?_;refine tz3_ 5 47 28 127 ?_;refine tz3_ 7 49 28 255 ?_;refine pz_ 8 50 28 511 ?_;refine pz_ 9 51 28 1023 ?_;refine pz_ 10 52 28 2047 ?_;refine pz_ 11 53 28 4095 ?_;refine pz_ 12 54 28 8191 ?_
       refine pu_ 13 55 28 16383 ?_
       refine pu_ 14 56 28 32767 ?_
       refine pu_ 15 57 28 65535 ?_
       refine pu_ 16 58 28 131071 ?_
       refine pu_ 17 59 28 262143 ?_
       refine pu_ 18 60 28 524287 ?_
       refine pu_ 19 61 28 1048575 ?_
       refine pu_ 20 62 28 2097151 ?_
       refine pu_ 21 63 28 4194303 ?_
       refine pu_ 22 64 28 8388607 ?_
       refine pu_ 23 65 28 16777215 ?_
       refine pu_ 24 66 28 33554431 ?_
       refine pu_ 25 67 28 67108863 ?_
       refine pz_ 26 68 28 134217727 ?_;refine pz_ 27 69 28 268435455 ?_
       refine done_ (done_of HT_.out (by kernel_rfl)) ?_
       try go_wp2
       go_meet
       case rel=>exact⟨_,(false),qe_,H',⟨by have:=d6.out;have:=HK2.out;first|omega|exact Nat.le_refl _⟩,⟨ra_ J⟩,⟨qk_ j⟩,⟨qB_⟩⟩
      have X:decide (0<c)=true:=decide_eq_true a8
      clear a8
      obtain⟨D,Y⟩:∃ j_:Int,(wrap64 (c - 1))=j_:=⟨_,rfl⟩
      first|rw[Y]at H|simp only[Y]at H
      have hji26w:(IntKind.i64.wrap (c - 1))=D:=(i64_w _).trans Y
      refine ig_ H ?_;clear H;intro a9 H
      refine ig_ H ?_;clear H;intro b0 H
      obtain⟨f5,i3,H⟩:=bs_ H
      refine jg_ H ?_;clear H;intro c7 H
      have b1:=decide_eq_true c7
      have b2:decide (0<f5.length)=true:=decide_eq_true (by omega)
      clear c7
      refine jg_ H ?_;clear H;intro c8 H
      have b3:=decide_eq_true c8
      have b4:decide (0<q.length)=true:=decide_eq_true (by omega)
      clear c8;have H' :=am_ H;clear H
      try go_wp2
      replace J:=rd_ J;replace j:=bd_ j;replace HB:=hd_ HB
      have A:=dt_ ((m))
      have B:=du_ (m) q.length
      obtain⟨y,a1,c6⟩:=Kd.at_int (Kd.R_reads' J.out).2.2 (m) (ot_ A) (ot_ B)
      cases a1
      have b7:=dt_ ((D))
      have b8:=du_ (D) a.length
      obtain⟨e3,A341_0,c341_0,f6,e4,a2,hi341_0⟩:=at_L4 z.out (D) (ot_ b7) (ot_ b8)
      have l4:=e4
      obtain rfl:g=e3:=(by injection f6)
      replace e4:=qx_ HB e4
      have a3:=am_ hi341_0
      have c9:=am_ a2
      clear hi341_0 a2
      have L:0≤(0:Int):=(by omega)
      have M:=dl_ 0 q.length
      obtain⟨e5,f7,e6⟩:=Kd.at_int (Kd.R_reads' J.out).2.2 0 L M
      obtain rfl:y=e5:=(by injection f7)
      have qi346:(0<q.length)=True:=eq_true (by omega)
      rw[show((0:Int)).toNat=0 from rfl]at e6
      rw[Addr.add_zero']at e6
      replace L:=eq_true L;replace M:=eq_true M
      refine start_ (n:=28) (S:=fun w' =>w'.cell? ⟨a4,0,none⟩=some (.int .i64 d)∧w'.cell? ⟨a4,1,none⟩=some (.slice (some g) a.length p)∧w'.cell? (y.add ((m)).toNat)=some (.int .i64 (rd q (m)))∧w'.cell? (g.add ((D)).toNat)=some (.slice A341_0 (rd_L4 a (D)).length c341_0)∧w'.cell? y=some (.int .i64 (rd q 0))) (ds:=[]) (bm 28 0) (by kernel_rfl) rfl (by kernel_rfl) ⟨bl_ j 0,bl_ j 1,c6,((qx_ HB l4).trans rfl),e6⟩ (fun hHeld=> ?_);refine with_tabW spec_ForestOk.tab11 spec_ForestOk.bits11 (fun HT_ HW_=> ?_)
      generalize e2.drew=m6 at J j HB a3 c6 e4 e6 hHeld ⊢
      refine pz_ 0 42 28 1 ?_;refine pz_ 1 43 28 3 ?_;refine pz_ 2 44 28 7 ?_;refine pz_ 3 45 28 15 ?_;refine pz_ 4 46 28 31 ?_;refine pz_ 6 48 28 95 ?_;refine tz5_ 5 47 28 127 ?_;refine tz5_ 7 49 28 255 ?_;refine pz_ 8 50 28 511 ?_;refine pz_ 9 51 28 1023 ?_;refine pz_ 10 52 28 2047 ?_;refine pz_ 11 53 28 4095 ?_;refine pz_ 12 54 28 8191 ?_;refine pz_ 13 55 28 16383 ?_;refine pz_ 15 57 28 49151 ?_;refine pz_ 16 58 28 114687 ?_;refine pz_ 22 64 28 4308991 ?_;refine pz_ 23 65 28 12697599 ?_;refine tz5_ 14 56 28 12713983 ?_;refine pz_ 17 59 28 12845055 ?_;refine tz5_ 18 60 28 13107199 ?_;refine tz5_ 24 66 28 29884415 ?_
      refine o1_ 19 (some 61) 28 30408703 (fun K hK=> ?_)
      refine goes_ Try.func59 (by kernel_rfl) rfl #[.slice A341_0 (rd_L4 a (D)).length c341_0] (by rfl) rfl rfl (by simp only[List.map_toArray,List.map_cons,List.map_nil];first|done|(simp only[Y];rfl)|rfl|(simp only[List.length_drop,List.length_take];rfl)) ?_
      with_reducible refine(spec_VertsOf.calls e9 _ _ (rd_L4 a (D)) f5 _ ?side1 ?side2 i3.out).mono ?_
      (case side1=>exact qC_ a3 HB)
      (case side2=>exact c9.out)
      rintro e m7 ⟨p3,rfl,ho0,hb⟩
      have HS2_:=(hb.cell (World.block_lt_of_cell? _ _ (hHeld.2.2.1))).trans (hHeld.2.2.1)
      have HS4_:=(hb.cell (World.block_lt_of_cell? _ _ (hHeld.2.2.2.2))).trans (hHeld.2.2.2.2)
      refine⟨_,rfl,?_⟩
      have l5:=am_ (Kd.R_lower (Kd.R_new' ho0 (Kd.R_lt (qR_ J))) (below_size qB_));replace J:=ke_ J ho0 hb;replace j:=qbl_ j hb;replace HB:=hs_ hb;clear hb ho0
      obtain⟨p4,p5,l6⟩:=Kd.R_slice l5.out
      (first|subst l6|(injection l6 with f8 i4 f9;have i5:=f8.symm;have i6:=f9.symm;clear f8 i4 f9;subst i5;subst i6))
      have O:0≤(0:Int):=(by omega)
      have T:=dl_ 0 f5.length
      obtain⟨i7,g0,g1⟩:=Kd.at_int (Kd.R_reads' l5.out).2.2 0 O T
      cases g0
      have qi345:(0<f5.length)=True:=eq_true (by omega)
      rw[show((0:Int)).toNat=0 from rfl]at g1
      rw[Addr.add_zero']at g1
      replace O:=eq_true O;replace T:=eq_true T
      refine hK.out _ _ ⟨bl_ j 0,bl_ j 1,HS2_,((qx_ HB l4).trans rfl),HS4_⟩ (fun hHeld=> ?_)
      clear hK K
      refine nm_ 61 ?_
      refine pz_ 20 62 28 31457279 ?_
      refine now_x14 (i:=21) (N:=some 63) (v:= ?_) (a' := ?_) (bm 28 33554431) rfl rfl (one_of HT_.out (by kernel_rfl)) (by decide) (Or.inl ⟨by rfl,?_⟩) hHeld ?_ ?_
      rotate_left
      ·rintro w' rfl
       go_simp
       with_reducible rfl
      rotate_left
      ·simp only[Act.put,sA_,sB_,sC_,i64_w,i32_w]
       rfl
      refine pz_ 25 67 28 67108863 ?_;refine pz_ 26 68 28 134217727 ?_;refine pz_ 27 69 28 268435455 ?_
      refine done_ (done_of HT_.out (by kernel_rfl)) ?_
      try go_wp2
      go_meet
      case rel=>exact⟨_,(decide ((rd f5 0)≥(rd q 0))),qe_,H',⟨by have:=d6.out;have:=HK2.out;first|omega|exact Nat.le_refl _⟩,⟨by(with_reducible repeat(first|apply Kd.R_alloc|apply Kd.R_drewN|apply Kd.R_drew));exact Kd.R_mono J.out (fun _ hk=>trivial)⟩,⟨qk_ j⟩,⟨qB_⟩⟩
     case rest=>
      clear h9
      obtain⟨kq,U,rfl,HA,e8,b9,j,HB⟩:=hcut
      cases kq with
      |zero=>exact absurd HA.out (by simp [spec_ForestOk.j2])
      |succ kj13=>
       have H:=HA.out;clear HA
       simp only[spec_ForestOk.j2]at H
       refine ie_ H ?_ ?_<;>clear H<;>rintro rfl H
       ·obtain rfl:=oi_ H
        go_wp2
        go_ret
        exact⟨qr_,qB_⟩
       have H' :=am_ H;clear H
       go_wp2
       go_loopg [6] kj13 (fun kq v6 w' =>∃ (l:Int),v6= .int .i64 l∧Aside0 (spec_ForestOk.l1 kq (wrap64 (E + (q.length:Int))) c q l d a=some r)∧Aside0 (kq≤kj13)∧Aside0 (Kd.R (Kd.int .i64) 3 w' w.heap.size (fun _=>True) (.slice i0 q.length i1) q)∧Aside0 (w'.heap[a4]? =some (.cells #[.int .i64 d,(.slice (some g) a.length p)] 39 (0,0)))∧Aside0 (Below w.heap.size w w'))
       case atStart=>exact⟨(0),qe_,H',⟨Nat.le_refl _⟩,⟨ra_ b9⟩,⟨qk_ j⟩,⟨qB_⟩⟩
       case round=>
        clear H'
        obtain⟨l,rfl,HA,HK4,b9,j,HB⟩:=hrel
        cases gk with
        |zero=>exact absurd HA.out (by simp [spec_ForestOk.l1])
        |succ i9=>
         have H:=HA.out;clear HA
         simp only[spec_ForestOk.l1]at H
         refine ib_ H ?_ ?_<;>clear H<;>intro e7 H
         ·have H' :=am_ H;clear H
          go_wp2
          go_roundg i9
          case measure=>have:=d6.out;have:=HK2.out;have:=e8.out;have:=HK4.out;omega
          case rel=>exact⟨((wrap64 (E + (q.length:Int)))),(wrap64 (c + 1)),qe_,qe_,H',⟨by have:=d6.out;have:=HK2.out;have:=e8.out;have:=HK4.out;omega⟩,⟨qk_ j⟩,⟨qB_⟩⟩
         have H' :=am_ H;clear H
         go_wp2
         go_loopg [7] i9 (fun kq v7 w' =>∃ (o:Int),v7= .int .i64 o∧Aside0 (spec_ForestOk.l2 kq (wrap64 (E + (q.length:Int))) c q l o d a=some r)∧Aside0 (kq≤i9)∧Aside0 (Kd.R (Kd.int .i64) 3 w' w.heap.size (fun _=>True) (.slice i0 q.length i1) q)∧Aside0 (w'.heap[a4]? =some (.cells #[.int .i64 d,(.slice (some g) a.length p)] 39 (0,0)))∧Aside0 (Below w.heap.size w w'))
         case atStart=>exact⟨(0),qe_,H',⟨Nat.le_refl _⟩,⟨ra_ b9⟩,⟨qk_ j⟩,⟨qB_⟩⟩
         case round=>
          clear H' e7
          obtain⟨o,rfl,HA,HK5,b9,j,HB⟩:=hrel
          cases gk with
          |zero=>exact absurd HA.out (by simp [spec_ForestOk.l2])
          |succ h4=>
           have H:=HA.out;clear HA
           simp only[spec_ForestOk.l2]at H
           refine ib_ H ?_ ?_<;>clear H<;>intro j5 H
           ·have H' :=am_ H;clear H
            go_wp2
            go_roundg h4
            case measure=>have:=d6.out;have:=HK2.out;have:=e8.out;have:=HK4.out;have:=HK5.out;omega
            case rel=>exact⟨(wrap64 (l + 1)),qe_,H',⟨by have:=d6.out;have:=HK2.out;have:=e8.out;have:=HK4.out;have:=HK5.out;omega⟩,⟨ra_ b9⟩,⟨qk_ j⟩,⟨qB_⟩⟩
           refine ig_ H ?_;clear H;intro j6 H
           refine ig_ H ?_;clear H;intro j7 H
           refine ig_ H ?_;clear H;intro j8 H
           obtain⟨p6,g7,H⟩:=bs_ H
           refine ie_ H ?_ ?_<;>clear H<;>rintro rfl H
           ·obtain rfl:=oi_ H
            try go_wp2
            replace b9:=rd_ b9;replace j:=bd_ j;replace HB:=hd_ HB
            have d0:=dt_ l
            have d1:=du_ l a.length
            obtain⟨b5,A347_0,c347_0,d2,d9,u,hi347_0⟩:=at_L4 z.out l (ot_ d0) (ot_ d1)
            have g8:=d9
            obtain rfl:g=b5:=(by injection d2)
            replace d9:=qx_ HB d9
            have x:=am_ hi347_0
            have I:=am_ u
            clear hi347_0 u
            have d3:=dt_ o
            have d4:=du_ o q.length
            obtain⟨b6,d5,g9⟩:=Kd.at_int (Kd.R_reads' b9.out).2.2 o (ot_ d3) (ot_ d4)
            cases d5
            refine start_ (n:=10) (S:=fun w' =>w'.cell? ⟨a4,0,none⟩=some (.int .i64 d)∧w'.cell? ⟨a4,1,none⟩=some (.slice (some g) a.length p)∧w'.cell? (g.add (l).toNat)=some (.slice A347_0 (rd_L4 a l).length c347_0)∧w'.cell? (b6.add (o).toNat)=some (.int .i64 (rd q o))) (ds:=[]) (bm 10 0) (by kernel_rfl) rfl (by kernel_rfl) ⟨bl_ j 0,bl_ j 1,((qx_ HB g8).trans rfl),g9⟩ (fun hHeld=> ?_);refine with_tabW spec_ForestOk.tab19 spec_ForestOk.bits19 (fun HT_ HW_=> ?_)
            generalize wr.drew=m9 at b9 j HB x d9 g9 hHeld ⊢
            refine pz_ 0 81 10 1 ?_;refine pz_ 2 83 10 5 ?_;refine pz_ 5 86 10 37 ?_;refine pz_ 6 87 10 101 ?_;refine pz_ 7 88 10 229 ?_;refine tz4_ 1 82 10 231 ?_;refine pz_ 3 84 10 239 ?_;refine tz4_ 4 85 10 255 ?_;refine tz4_ 8 89 10 511 ?_
            refine o1_ 9 (some 90) 10 1023 (fun K hK=> ?_)
            refine gs_ Try.func105 #[.slice A347_0 (rd_L4 a l).length c347_0,.int .i64 (rd q o)] ?_
            with_reducible refine(spec_l05In.calls h4 _ _ (rd_L4 a l) (rd q o) true _ ?side1 ?side2 g7.out).mono ?_
            (case side1=>exact qC_ x HB)
            (case side2=>exact I.out)
            rintro e w' ⟨rfl,⟨nd,rfl⟩⟩
            refine⟨_,rfl,?_⟩
            refine hK.out _ _ ⟨bl_ j 0,bl_ j 1,((qx_ HB g8).trans rfl),hHeld.2.2.2⟩ (fun hHeld=> ?_)
            clear hK K
            refine nm_ 90 ?_
            refine done_ (done_of HT_.out (by kernel_rfl)) ?_
            try go_wp2
            go_ret
            exact⟨qr_,qB_⟩
           have H' :=am_ H;clear H
           try go_wp2
           replace b9:=rd_ b9;replace j:=bd_ j;replace HB:=hd_ HB
           have d0:=dt_ l
           have d1:=du_ l a.length
           obtain⟨b5,A347_0,c347_0,d2,d9,u,hi347_0⟩:=at_L4 z.out l (ot_ d0) (ot_ d1)
           have g8:=d9
           obtain rfl:g=b5:=(by injection d2)
           replace d9:=qx_ HB d9
           have x:=am_ hi347_0
           have I:=am_ u
           clear hi347_0 u
           have d3:=dt_ o
           have d4:=du_ o q.length
           obtain⟨b6,d5,g9⟩:=Kd.at_int (Kd.R_reads' b9.out).2.2 o (ot_ d3) (ot_ d4)
           cases d5
           refine start_ (n:=10) (S:=fun w' =>w'.cell? ⟨a4,0,none⟩=some (.int .i64 d)∧w'.cell? ⟨a4,1,none⟩=some (.slice (some g) a.length p)∧w'.cell? (g.add (l).toNat)=some (.slice A347_0 (rd_L4 a l).length c347_0)∧w'.cell? (b6.add (o).toNat)=some (.int .i64 (rd q o))) (ds:=[]) (bm 10 0) (by kernel_rfl) rfl (by kernel_rfl) ⟨bl_ j 0,bl_ j 1,((qx_ HB g8).trans rfl),g9⟩ (fun hHeld=> ?_);refine with_tabW spec_ForestOk.tab19 spec_ForestOk.bits19 (fun HT_ HW_=> ?_)
           generalize wr.drew=n0 at b9 j HB x d9 g9 hHeld ⊢
           refine pz_ 0 81 10 1 ?_;refine pz_ 2 83 10 5 ?_;refine pz_ 5 86 10 37 ?_;refine pz_ 6 87 10 101 ?_;refine pz_ 7 88 10 229 ?_;refine tz4_ 1 82 10 231 ?_;refine pz_ 3 84 10 239 ?_;refine tz4_ 4 85 10 255 ?_;refine tz4_ 8 89 10 511 ?_
           refine o1_ 9 (some 90) 10 1023 (fun K hK=> ?_)
           refine gs_ Try.func105 #[.slice A347_0 (rd_L4 a l).length c347_0,.int .i64 (rd q o)] ?_
           with_reducible refine(spec_l05In.calls h4 _ _ (rd_L4 a l) (rd q o) false _ ?side1 ?side2 g7.out).mono ?_
           (case side1=>exact qC_ x HB)
           (case side2=>exact I.out)
           rintro e w' ⟨rfl,⟨nd,rfl⟩⟩
           refine⟨_,rfl,?_⟩
           refine hK.out _ _ ⟨bl_ j 0,bl_ j 1,((qx_ HB g8).trans rfl),hHeld.2.2.2⟩ (fun hHeld=> ?_)
           clear hK K
           refine nm_ 90 ?_
           refine done_ (done_of HT_.out (by kernel_rfl)) ?_
           try go_wp2
           go_roundg h4
           case measure=>have:=d6.out;have:=HK2.out;have:=e8.out;have:=HK4.out;have:=HK5.out;omega
           case rel=>exact⟨(wrap64 (o + 1)),qe_,H',⟨by have:=d6.out;have:=HK2.out;have:=e8.out;have:=HK4.out;have:=HK5.out;omega⟩,⟨ra_ b9⟩,⟨qk_ j⟩,⟨qB_⟩⟩
end Go.Proofs.Ytbkklafkoegdpaa.QFnTakes

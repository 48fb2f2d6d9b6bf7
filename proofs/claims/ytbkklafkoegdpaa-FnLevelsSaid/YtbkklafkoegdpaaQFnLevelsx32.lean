import Derived.Test.YtbkklafkoegdpaaQFnLevelsx2
import Derived.Test.YtbkklafkoegdpaaQFnLevelsx31
namespace Go.Proofs.Ytbkklafkoegdpaa.QFnLevels
open Go.RowKit Go.Proofs.YtbkklafkoegdpaaW.PrintWords Go.Proofs.YtbkklafkoegdpaaW.PrintLast Go.Proofs.YtbkklafkoegdpaaW.PrintMore
set_option maxHeartbeats 8000000
set_option maxRecDepth 100000
set_option linter.unusedVariables false
set_option linter.unusedSimpArgs false
mutual
def impl_TourOk.j0:Nat→List Int→Bool→Option (Bool)
  |0,_,_=>none
  |k + 1,x0,x18=>if x18=true then (some false) else (if 0<(x0.length:Int) then (if 1≤(x0.length:Int) then (impl_TourOk.l0 k (([rd x0 0]:List Int)) (([rd x0 0]:List Int)) (x0.drop 1) ((x0.drop 1).length:Int) 0) else (none)) else (none))
def impl_TourOk.l0:Nat→List Int→List Int→List Int→Int→Int→Option (Bool)
  |0,_,_,_,_,_=>none
  |k + 1,x3,x4,x28,x29,x30=>if x30<x29 then (if 0≤x30 then (if x30<(x28.length:Int) then (if (x3.length:Int)>1 then (if 0≤(wrap64 ((x3.length:Int) - 2)) then (if (wrap64 ((x3.length:Int) - 2))<(x3.length:Int) then (impl_TourOk.j2 k x3 x4 (rd x28 x30) (x3.length:Int) x28 x29 x30 ((rd x3 (wrap64 ((x3.length:Int) - 2)))==(rd x28 x30))) else (none)) else (none)) else (impl_TourOk.j2 k x3 x4 (rd x28 x30) (x3.length:Int) x28 x29 x30 false)) else (none)) else (none)) else (some ((x3.length:Int)==1))
def impl_TourOk.j2:Nat→List Int→List Int→Int→Int→List Int→Int→Int→Bool→Option (Bool)
  |0,_,_,_,_,_,_,_,_=>none
  |k + 1,x3,x4,x6,x7,x28,x29,x30,x36=>if x36=true then (if 0≤(wrap64 (x7 - 1)) then (if (wrap64 (x7 - 1))≤(x3.length:Int) then (impl_TourOk.l0 k (x3.take ((wrap64 (x7 - 1)):Int).toNat) x4 x28 x29 (wrap64 (x30 + 1))) else (none)) else (none)) else ((impl_in.f x6 0 11).bind fun t755=>(if t755=true then ((impl_hasInt.f k x4 x6).bind fun t756=>(if t756=true then (some false) else (if x3.length<17592186044416 then (if x4.length<17592186044416 then (impl_TourOk.l0 k (x3++[x6]) (x4++[x6]) x28 x29 (wrap64 (x30 + 1))) else (none)) else (none)))) else (some false)))
end
def impl_TourOk.f (k:Nat) (l0:List Int):Option (Bool):=(impl_in.f (l0.length:Int) 1 23).bind fun t738=>(if t738=true then (if 0<(l0.length:Int) then ((impl_in.f (rd l0 0) 0 11).bind fun t740=>(impl_TourOk.j0 k l0 (!t740))) else (none)) else (impl_TourOk.j0 k l0 true))
theorem impl_TourOk.calls (k:Nat) (f4:Option Addr) (e2:Nat) (l0:List Int) (r:Bool) (w:World) (hr0:Kd.C (Kd.int .i64) w f4 l0.length l0) (hc0:l0.length≤e2) (h:impl_TourOk.f k l0=some r):
  Calls Try.prog 119 #[.slice f4 l0.length e2] w fun e w' =>e= .returned (.bool r)∧Below w.heap.size w w' :=by
 have d4:=am_ hr0
 have g7:=am_ hc0
 clear hr0 hc0
 have HB:=am_ (Below.refl w.heap.size w)
 rw[impl_TourOk.f]at h;have H:=h;clear h
 have e3:=am_ H
 clear H
 go_enter Try.func119,Try.ntmps119
 go_upto_region 1 with (fail)
 go_cut [18] (fun v18 wc=>∃ (kq:Nat) (y:Bool),v18= .bool y∧Aside0 (impl_TourOk.j0 kq l0 y=some r)∧Aside0 (kq≤k)∧Aside0 (Below w.heap.size w wc))
 case first=>
  have H:=e3.out;clear e3
  obtain⟨k0,f5,H⟩:=bs_ H
  refine id_ H ?_ ?_<;>clear H<;>rintro rfl H
  ·have H' :=am_ H;clear H
   go_wp2_with (first|((with_reducible refine gc_ 66 ?_);refine gl_ (some 10) Try.func66 #[.int .i64 (l0.length:Int),.int .i64 1,.int .i64 23] ?_;(with_reducible refine(impl_in.calls (l0.length:Int) 1 23 false _ f5.out).mono ?_);rintro e w' ⟨rfl,⟨nd,rfl⟩⟩;refine⟨_,rfl,?_⟩))
   go_meet
   case rel=>exact⟨_,(true),qe_,H',⟨qo_⟩,⟨qB_⟩⟩
  refine jg_ H ?_;clear H;intro c4 H
  have q:=decide_eq_true c4
  have D:decide (0<l0.length)=true:=decide_eq_true (by omega)
  clear c4
  (first|rw[q]|rw[D]|(simp only[i64_w,i32_w];rw[q])|skip)
  obtain⟨f6,g8,H⟩:=bs_ H
  have H' :=am_ H;clear H
  go_wp2_with (first|((with_reducible refine gc_ 66 ?_);refine gl_ (some 10) Try.func66 #[.int .i64 (l0.length:Int),.int .i64 1,.int .i64 23] ?_;(with_reducible refine(impl_in.calls (l0.length:Int) 1 23 true _ f5.out).mono ?_);rintro e w' ⟨rfl,⟨nd,rfl⟩⟩;refine⟨_,rfl,?_⟩;have i:0≤(0:Int):=(by omega);have j:=dl_ 0 l0.length;obtain⟨e4,c5,a6⟩:=Kd.at_int d4.out 0 i j;cases c5;have qi739:(0<l0.length)=True:=eq_true (by omega);rw[show((0:Int)).toNat=0 from rfl]at a6;rw[Addr.add_zero']at a6;replace a6:=qx_ HB a6;replace i:=eq_true i;replace j:=eq_true j)|(go_at_call 66;(with_reducible refine(impl_in.calls (rd l0 0) 0 11 f6 _ g8.out).mono ?_);rintro e w' ⟨rfl,⟨nd,rfl⟩⟩))
  go_meet
  case rel=>exact⟨_,(!f6),qe_,H',⟨qo_⟩,⟨qB_⟩⟩
 case rest=>
  clear e3
  obtain⟨kq,y,rfl,HA,c1,HB⟩:=hcut
  cases kq with
  |zero=>exact absurd HA.out (by simp [impl_TourOk.j0])
  |succ kj1=>
   have H:=HA.out;clear HA
   simp only[impl_TourOk.j0]at H
   refine ie_ H ?_ ?_<;>clear H<;>rintro rfl H
   ·obtain rfl:=oi_ H
    go_wp2
    go_ret
    exact⟨qr_,qB_⟩
   refine jg_ H ?_;clear H;intro d6 H
   have X:=decide_eq_true d6
   have Y:decide (0<l0.length)=true:=decide_eq_true (by omega)
   clear d6
   obtain⟨g0,z⟩:∃ y_:List Int,y_=(([rd l0 0]:List Int)):=⟨_,rfl⟩
   replace H:(if 1≤(l0.length:Int) then (impl_TourOk.l0 kj1 g0 (([rd l0 0]:List Int)) (l0.drop 1) ((l0.drop 1).length:Int) 0) else (none))=some r:=hq_ z H
   have E:=am_ z
   clear z
   generalize F:(([rd l0 0]:List Int))=g9 at H;replace H:=bh_ H;have G:=am_ F.symm;clear F
   refine jg_ H ?_;clear H;intro c6 H
   have Z:=eq_true c6
   have a0:=decide_eq_true c6
   clear c6;have H' :=am_ H;clear H
   have s:0≤(0:Int):=(by omega)
   have t:=dl_ 0 l0.length
   obtain⟨I,c7,c2⟩:=Kd.at_int d4.out 0 s t
   cases c7
   have qi741:(0<l0.length)=True:=eq_true (by omega)
   rw[show((0:Int)).toNat=0 from rfl]at c2
   rw[Addr.add_zero']at c2
   replace c2:=qx_ HB c2
   replace s:=eq_true s;replace t:=eq_true t
   go_wp2_with (first|((with_reducible refine gd_ 22 ?_);refine Kd.R_lit (Kd.int .i64) _ 3 ?hg (N:=22) ?hd (xs:=([rd l0 0]:List Int)) (inner:=[.int .i64 (rd l0 0)]) (ok:=fun _=>True) (okp:=fun _=>True) ?hr ?hp (fun _ hk=>hk) trivial (Below.refl _ _) (Nat.le_refl _) (by simp) ?_;(case hd=>rfl);(case hg=>rfl);(case hr=>first|(go_simp;done)|(go_simp;rfl));(case hp=>exact(Reps.one (show Kd.M (Kd.int .i64) _ _ _ (rd l0 0) [.int .i64 (rd l0 0)] from rfl) (Reps.none _ _)));intro k1 h0 ho11 hb hg_ hnew_;clear hg_ hnew_;(first|rw[←E.out]at ho11|(simp only[Int.reduceToNat]at ho11;rw[←E.out]at ho11));have d7:=am_ (Kd.R_lower ho11 (below_size qB_));replace HB:=hs_ hb;clear hb ho11;have u:0≤(0:Int):=(by omega);have v:=dl_ 0 l0.length;obtain⟨a7,c8,c3⟩:=Kd.at_int d4.out 0 u v;obtain rfl:I=a7:=(by injection c8);have qi745:(0<l0.length)=True:=eq_true (by omega);rw[show((0:Int)).toNat=0 from rfl]at c3;rw[Addr.add_zero']at c3;replace c3:=qx_ HB c3;replace u:=eq_true u;replace v:=eq_true v)|((with_reducible refine gd_ 26 ?_);refine Kd.R_lit (Kd.int .i64) _ 3 ?hg (N:=26) ?hd (xs:=([rd l0 0]:List Int)) (inner:=[.int .i64 (rd l0 0)]) (ok:=fun _=>True) (okp:=fun _=>True) ?hr ?hp (fun _ hk=>hk) trivial (Below.refl _ _) (Nat.le_refl _) (by simp) ?_;(case hd=>rfl);(case hg=>rfl);(case hr=>first|(go_simp;done)|(go_simp;rfl));(case hp=>exact(Reps.one (show Kd.M (Kd.int .i64) _ _ _ (rd l0 0) [.int .i64 (rd l0 0)] from rfl) (Reps.none _ _)));intro k2 h2 ho13 hb hg_ hnew_;clear hg_ hnew_;(first|rw[←G.out]at ho13|(simp only[Int.reduceToNat]at ho13;rw[←G.out]at ho13));have h3:=am_ (Kd.R_lower (Kd.R_new' ho13 (Kd.R_lt (qR_ d7))) (below_size qB_));replace d7:=ke_ d7 ho13 hb;replace HB:=hs_ hb;clear hb ho13;obtain⟨i014,hi014,_,hsz14,_⟩:=info_parts info3;obtain⟨h4,hcut14,hA14,hC14⟩:=print_drop_of (P:=Try.prog) (Value.int .i64) 0 51 3 .i64 Try.underlying51 hi014 hsz14 (some I) e2 l0 1 (by omega) (of_decide_eq_true qa_) g7.out;have g1:=am_ (Kd.C_of_reads (h1:=fun _=>rfl) (hA14 _ (Kd.reads_of_C d4.out)));have h5:=am_ hC14;clear hA14 hC14 hi014 hsz14;obtain⟨ydHR749,hydHR749⟩:∃ y_:List Int,y_=l0.drop 1:=⟨_,rfl⟩;rw[show List.drop (Int.toNat 1) l0=l0.drop 1 from rfl,←hydHR749]at hcut14 g1 h5;rw[←hydHR749]at H';clear hydHR749))
   go_loopg [3,4,30] kj1 (fun kq v3 v4 v30 w' =>∃ (c:List Int) (d:List Int) (a:Int),v30= .int .i64 a∧Aside0 (impl_TourOk.l0 kq c d ydHR749 (ydHR749.length:Int) a=some r)∧Aside0 (kq≤kj1)∧Aside0 (Kd.R (Kd.int .i64) 3 w' w.heap.size (fun k_=>some k_≠(v4:Value).ownBlock) v3 c)∧Aside0 (Kd.R (Kd.int .i64) 3 w' w.heap.size (fun k_=>some k_≠(v3:Value).ownBlock) v4 d)∧Aside0 (Below w.heap.size w w'))
   case atStart=>exact⟨(g0),(g9),(0),qe_,H',⟨Nat.le_refl _⟩,⟨by(with_reducible repeat(first|apply Kd.R_alloc|apply Kd.R_drewN|apply Kd.R_drew));exact Kd.R_mono d7.out (fun _ hk=>hk.2)⟩,⟨by(with_reducible repeat(first|apply Kd.R_alloc|apply Kd.R_drewN|apply Kd.R_drew));exact Kd.R_mono h3.out (fun _ hk=>hk.2)⟩,⟨qB_⟩⟩
   case round=>
    clear H' X Y Z a0 c2 c3 s u t v
    obtain⟨c,d,a,rfl,HA,HK2,J,A,HB⟩:=hrel
    cases gk with
    |zero=>exact absurd HA.out (by simp [impl_TourOk.l0])
    |succ h8=>
     have H:=HA.out;clear HA
     simp only[impl_TourOk.l0]at H
     refine ib_ H ?_ ?_<;>clear H<;>intro a8 H
     ·obtain rfl:=oi_ H
      obtain⟨k3,k4,h9⟩:=Kd.R_slice J.out
      subst h9
      go_wp2
      go_ret
      exact⟨qr_,qB_⟩
     refine ig_ H ?_;clear H;intro a9 H
     refine ig_ H ?_;clear H;intro b0 H
     have e6:=am_ H
     clear H
     have a1:=dt_ a
     have a2:=du_ a ydHR749.length
     obtain⟨e7,c9,e8⟩:=Kd.at_int g1.out a (ot_ a1) (ot_ a2)
     cases c9
     replace e8:=qx_ HB e8
     obtain⟨d8,d9,i0⟩:=Kd.R_slice J.out
     subst i0
     go_upto_region 10 with (fail)
     go_cut [36] (fun v36 wc=>∃ (kq:Nat) (n:Bool),v36= .bool n∧Aside0 (impl_TourOk.j2 kq c d (rd ydHR749 a) (c.length:Int) ydHR749 (ydHR749.length:Int) a n=some r)∧Aside0 (kq≤h8)∧Aside0 (Kd.R (Kd.int .i64) 3 wc w.heap.size (fun k_=>some k_≠(u4:Value).ownBlock) (.slice d8 c.length d9) c)∧Aside0 (Kd.R (Kd.int .i64) 3 wc w.heap.size (fun k_=>some k_≠((.slice d8 c.length d9):Value).ownBlock) u4 d)∧Aside0 (Below w.heap.size w wc))
     case first=>
      have H:=e6.out;clear e6
      refine jb_ H ?_ ?_<;>clear H<;>intro L H
      ·have g:decide (1<(c.length:Int))=false:=decide_eq_false L
       have o:decide (1<c.length)=false:=decide_eq_false (by omega)
       clear L
       (first|rw[g]|rw[o]|(simp only[i64_w,i32_w];rw[g])|skip)
       have H' :=am_ H;clear H
       go_wp2
       go_meet
       case rel=>exact⟨_,(false),qe_,H',⟨by have:=c1.out;have:=HK2.out;first|omega|exact Nat.le_refl _⟩,⟨ra_ J⟩,⟨ra_ A⟩,⟨qB_⟩⟩
      have g:decide (1<(c.length:Int))=true:=decide_eq_true L
      have o:decide (1<c.length)=true:=decide_eq_true (by omega)
      clear L
      (first|rw[g]|rw[o]|(simp only[i64_w,i32_w];rw[g])|skip)
      obtain⟨x,p⟩:∃ j_:Int,(wrap64 ((c.length:Int) - 2))=j_:=⟨_,rfl⟩
      first|rw[p]at H|simp only[p]at H
      have hji21w:(IntKind.i64.wrap ((c.length:Int) - 2))=x:=(i64_w _).trans p
      refine ig_ H ?_;clear H;intro b1 H
      refine ig_ H ?_;clear H;intro b2 H
      have H' :=am_ H;clear H
      have a3:=dt_ ((x))
      have a4:=du_ (x) c.length
      obtain⟨e9,d0,i1⟩:=Kd.at_int (Kd.R_reads' J.out).2.2 (x) (ot_ a3) (ot_ a4)
      cases d0
      go_wp2
      go_meet
      case rel=>exact⟨_,(((rd c (x))==(rd ydHR749 a))),(by first|rfl|(simp;done)|(simp only[←p]<;>(first|rfl|simp))|(simp [*];done)),H',⟨by have:=c1.out;have:=HK2.out;first|omega|exact Nat.le_refl _⟩,⟨ra_ J⟩,⟨ra_ A⟩,⟨qB_⟩⟩
     case rest=>
      clear e6 a8 a9 b0 e8 a1 a2
      obtain⟨kq,n,rfl,HA,e0,J,A,HB⟩:=hcut
      cases kq with
      |zero=>exact absurd HA.out (by simp [impl_TourOk.j2])
      |succ kj17=>
       have H:=HA.out;clear HA
       simp only[impl_TourOk.j2]at H
       refine ie_ H ?_ ?_<;>clear H<;>rintro rfl H
       ·obtain⟨l,B⟩:∃ j_:Int,(wrap64 ((c.length:Int) - 1))=j_:=⟨_,rfl⟩
        first|rw[B]at H|simp only[B]at H
        have hji25w:(IntKind.i64.wrap ((c.length:Int) - 1))=l:=(i64_w _).trans B
        refine jg_ H ?_;clear H;intro b3 H
        have f0:=eq_true b3
        have f1:=decide_eq_true b3
        clear b3
        refine jg_ H ?_;clear H;intro b4 H
        have f2:=eq_true b4
        have f3:=decide_eq_true b4
        clear b4
        generalize O:(c.take ((l):Int).toNat)=g4 at H;replace H:=bh_ H;have T:=am_ O.symm;clear O;have H' :=am_ H;clear H
        have b5:((l):Int)≤((c.length:Int):Int):=of_decide_eq_true qa_
        obtain⟨i028,hi028,_,hsz28,_⟩:=info_parts info3
        have hcut28:=cut_to (P:=Try.prog) 51 3 .i64 Try.underlying51 hi028 d8 c.length d9 (l) (of_decide_eq_true qa_) b5 (Kd.R_reads' J.out).2.1
        have hr28:=Kd.R_take (m:=((l):Int).toNat) J.out (by omega)
        have a5:g4.length=((l):Int).toNat:=(by rw[T.out,List.length_take];omega)
        rw[←T.out]at hr28
        rw[←a5]at hr28 hcut28
        clear a5 hi028 hsz28 J
        have i7:=am_ hr28
        clear hr28;replace b5:=eq_true b5
        go_wp2
        go_roundg kj17
        case measure=>have:=c1.out;have:=HK2.out;have:=e0.out;omega
        case rel=>exact⟨(g4),(d),(wrap64 (a + 1)),qe_,H',⟨by have:=c1.out;have:=HK2.out;have:=e0.out;omega⟩,⟨ra_ i7⟩,⟨ra_ A⟩,⟨qB_⟩⟩
       obtain⟨k7,b6,H⟩:=bs_ H
       refine id_ H ?_ ?_<;>clear H<;>rintro rfl H
       ·obtain rfl:=oi_ H
        go_wp2_with (first|((with_reducible refine gc_ 66 ?_);refine gl_ (some 54) Try.func66 #[.int .i64 (rd ydHR749 a),.int .i64 0,.int .i64 11] ?_;(with_reducible refine(impl_in.calls (rd ydHR749 a) 0 11 false _ b6.out).mono ?_);rintro e w' ⟨rfl,⟨nd,rfl⟩⟩;refine⟨_,rfl,?_⟩))
        go_ret
        exact⟨qr_,qB_⟩
       obtain⟨k8,d1,H⟩:=bs_ H
       refine ie_ H ?_ ?_<;>clear H<;>rintro rfl H
       ·obtain rfl:=oi_ H
        go_wp2_with (first|((with_reducible refine gc_ 66 ?_);refine gl_ (some 54) Try.func66 #[.int .i64 (rd ydHR749 a),.int .i64 0,.int .i64 11] ?_;(with_reducible refine(impl_in.calls (rd ydHR749 a) 0 11 true _ b6.out).mono ?_);rintro e w' ⟨rfl,⟨nd,rfl⟩⟩;refine⟨_,rfl,?_⟩;obtain⟨k9,l4,i8⟩:=Kd.R_slice A.out;subst i8)|(go_at_call 120;(with_reducible refine(impl_hasInt.calls kj17 _ _ d (rd ydHR749 a) true _ ?_ ?_ d1.out).mono ?_);exact qD_ (Kd.R_reads' A.out).2.2;exact(Kd.R_reads' A.out).2.1;rintro e w' ⟨rfl,⟨nd,rfl⟩⟩))
        go_ret
        exact⟨qr_,qB_⟩
       refine jg_ H ?_;clear H;intro d2 H
       have b7:=am_ d2
       clear d2
       generalize U:(c++[(rd ydHR749 a)])=i9 at H;replace H:=bh_ H;have b8:=am_ U.symm;clear U
       refine jg_ H ?_;clear H;intro d3 H
       have b9:=am_ d3
       clear d3
       generalize V:(d++[(rd ydHR749 a)])=j3 at H;replace H:=bh_ H;have c0:=am_ V.symm;clear V;have H' :=am_ H;clear H
       go_wp2_with (first|((with_reducible refine gc_ 66 ?_);refine gl_ (some 54) Try.func66 #[.int .i64 (rd ydHR749 a),.int .i64 0,.int .i64 11] ?_;(with_reducible refine(impl_in.calls (rd ydHR749 a) 0 11 true _ b6.out).mono ?_);rintro e w' ⟨rfl,⟨nd,rfl⟩⟩;refine⟨_,rfl,?_⟩;obtain⟨g5,g6,j5⟩:=Kd.R_slice A.out;subst j5)|(go_at_call 120;(with_reducible refine(impl_hasInt.calls kj17 _ _ d (rd ydHR749 a) false _ ?_ ?_ d1.out).mono ?_);exact qD_ (Kd.R_reads' A.out).2.2;exact(Kd.R_reads' A.out).2.1;rintro e w' ⟨rfl,⟨nd,rfl⟩⟩)|((with_reducible refine gate_builtin (b:= .append) (xs:= #[.tmp 61,.tmp 63]) rfl ?_);at_builtin;refine Kd.R_append (Kd.int .i64) (w0:=w) w.heap.size rfl (.tmp 61) (.tmp 63) 51 3 (.int .i64 0) 8 rfl Try.underlying51 info3 rfl (by decide) (by omega) (.slice d8 c.length d9) c (rd ydHR749 a) [.int .i64 (rd ydHR749 a)] (fun k_=>some k_≠(.slice g5 d.length g6:Value).ownBlock) (fun _=>False) rfl rfl ?aP (fun _ hk=>hk.elim) ?aF ?aO ?aB ?aS ?aL ?_;(case aP=>exact rfl);(case aB=>exact qB_);(case aF=>exact(fun k_ hk=>Kd.fresh' (Kd.R_lt (qR_ A)) k_ hk));(case aO=>exact(qR_ J));(case aS=>exact(below_size qB_));(case aL=>have:=b7.out;omega);intro j6 j7 ho hb hg hat;rw[←b8.out]at ho;have e1:=am_ (ho);replace A:=am_ (Kd.R_after (ok:=(fun _=>True)) (by(with_reducible repeat(first|apply Kd.R_alloc|apply Kd.R_drewN|apply Kd.R_drew));exact Kd.R_mono A.out (fun _ hk=>⟨trivial,hk⟩)) hg hat);replace HB:=am_ (hb);clear J ho hb hg hat)|((with_reducible refine gate_builtin (b:= .append) (xs:= #[.tmp 65,.tmp 67]) rfl ?_);at_builtin;refine Kd.R_append (Kd.int .i64) (w0:=w) w.heap.size rfl (.tmp 65) (.tmp 67) 51 3 (.int .i64 0) 8 rfl Try.underlying51 info3 rfl (by decide) (by omega) (.slice g5 d.length g6) d (rd ydHR749 a) [.int .i64 (rd ydHR749 a)] (fun k_=>some k_≠(j6:Value).ownBlock) (fun _=>False) rfl rfl ?aP (fun _ hk=>hk.elim) ?aF ?aO ?aB ?aS ?aL ?_;(case aP=>exact rfl);(case aB=>exact qB_);(case aF=>exact(fun k_ hk=>Kd.fresh' (Kd.R_lt (qR_ e1)) k_ hk));(case aO=>exact(by(with_reducible repeat(first|apply Kd.R_alloc|apply Kd.R_drewN|apply Kd.R_drew));exact Kd.R_mono A.out (fun _ hk=>hk.2)));(case aS=>exact(below_size qB_));(case aL=>have:=b9.out;omega);intro l5 j8 ho hb hg hat;rw[←c0.out]at ho;have j9:=am_ (ho);replace e1:=am_ (Kd.R_after (ok:=(fun _=>True)) (by(with_reducible repeat(first|apply Kd.R_alloc|apply Kd.R_drewN|apply Kd.R_drew));exact Kd.R_mono e1.out (fun _ hk=>⟨trivial,hk⟩)) hg hat);replace HB:=am_ (hb);clear A ho hb hg hat))
       go_roundg kj17
       case measure=>have:=c1.out;have:=HK2.out;have:=e0.out;omega
       case rel=>exact⟨(i9),(j3),(wrap64 (a + 1)),qe_,H',⟨by have:=c1.out;have:=HK2.out;have:=e0.out;omega⟩,⟨by(with_reducible repeat(first|apply Kd.R_alloc|apply Kd.R_drewN|apply Kd.R_drew));exact Kd.R_mono e1.out (fun _ hk=>hk.2)⟩,⟨ra_ j9⟩,⟨qB_⟩⟩
end Go.Proofs.Ytbkklafkoegdpaa.QFnLevels

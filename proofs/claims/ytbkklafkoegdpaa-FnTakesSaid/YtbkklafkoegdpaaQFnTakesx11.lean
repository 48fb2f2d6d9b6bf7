import Derived.Test.YtbkklafkoegdpaaQFnTakesx10
namespace Go.Proofs.Ytbkklafkoegdpaa.QFnTakes
open Go.RowKit Go.Proofs.YtbkklafkoegdpaaW.PrintWords Go.Proofs.YtbkklafkoegdpaaW.PrintLast Go.Proofs.YtbkklafkoegdpaaW.PrintMore
set_option maxHeartbeats 8000000
set_option maxRecDepth 100000
set_option linter.unusedVariables false
set_option linter.unusedSimpArgs false
mutual
def spec_l06Walk.l0:Nat→Int→List (S43)→Int→Int→List Bool→List Int→Int→Option (List Int × Bool × List Bool)
  |0,_,_,_,_,_,_,_=>none
  |k + 1,x0,x1,x2,x3,x4,x12,x13=>if x13<x0 then (if x2<x13 then (spec_l06Walk.j1 k x0 x1 x2 x3 x4 x12 x13 x2 x13) else (spec_l06Walk.j1 k x0 x1 x2 x3 x4 x12 x13 x13 x2)) else (some (x12,false,x4))
def spec_l06Walk.j1:Nat→Int→List (S43)→Int→Int→List Bool→List Int→Int→Int→Int→Option (List Int × Bool × List Bool)
  |0,_,_,_,_,_,_,_,_,_=>none
  |k + 1,x0,x1,x2,x3,x4,x12,x13,x243000,x243001=>if x13=x3 then (spec_l06Walk.j2 k x0 x1 x2 x3 x4 x12 x13 true) else ((spec_l05Has.f k x1 x243000 x243001).bind fun t243=>(spec_l06Walk.j2 k x0 x1 x2 x3 x4 x12 x13 (!t243)))
def spec_l06Walk.j2:Nat→Int→List (S43)→Int→Int→List Bool→List Int→Int→Bool→Option (List Int × Bool × List Bool)
  |0,_,_,_,_,_,_,_,_=>none
  |k + 1,x0,x1,x2,x3,x4,x12,x13,x44=>if x44=true then (spec_l06Walk.l0 k x0 x1 x2 x3 x4 x12 (wrap64 (x13 + 1))) else (if 0≤x13 then (if x13<(x4.length:Int) then (if rdOf false x4 x13=true then (some (x12,true,x4)) else ((spec_l06Walk.f k x0 x1 x13 x2 x4).bind fun bt245=>(if bt245.2.1=true then (some (x12,true,bt245.2.2)) else (if x12.length + bt245.1.length<17592186044416 then ((some (x12++bt245.1:List Int)).bind fun y250=>(if y250.length<17592186044416 then (spec_l06Walk.l0 k x0 x1 x2 x3 bt245.2.2 (y250++[x2]) (wrap64 (x13 + 1))) else (none))) else (none))))) else (none)) else (none))
def spec_l06Walk.f:Nat→Int→List (S43)→Int→Int→List Bool→Option (List Int × Bool × List Bool)
  |0,_,_,_,_,_=>none
  |k + 1,a0,l1,a2,a3,l4=>if 0≤a2 then (if a2<(l4.length:Int) then (spec_l06Walk.l0 k a0 l1 a2 a3 (l4.set (a2:Int).toNat true) (([a2]:List Int)) 0) else (none)) else (none)
end
theorem spec_l06Walk.calls (k:Nat):∀ (T:Int) (c4:Option Addr) (b1:Nat) (l1:List (S43)) (l:Int) (U:Int) (d:Nat→Prop) (u9000_:Value) (V:List Bool) (b3:List Int) (b4:Bool) (b5:List Bool) (o w:World) (hB:Below o.heap.size o w) (hr1:∀ W_,Kept w W_ (fun k_=>d k_)→Kd.C k43 W_ c4 l1.length l1) (hc1:l1.length≤b1) (ho4:Kd.R Kd.bool 4 w o.heap.size d u9000_ V) (h:spec_l06Walk.f k T l1 l U V=some (b3,b4,b5)),
  Calls Try.prog 136 #[.int .i64 T,.slice c4 l1.length b1,.int .i64 l,.int .i64 U,u9000_] w fun e w' =>∃ c5:Value,e= .returned (.tuple #[c5,.bool b4])∧Kd.R (Kd.int .i64) 3 w' o.heap.size (fun k_=>(d k_∨w.heap.size≤k_)) c5 b3∧Kd.R Kd.bool 4 w' o.heap.size (fun k_=>(d k_∨w.heap.size≤k_)) u9000_ b5∧Below o.heap.size o w' ∧Kept w w' (fun k_=>d k_):=by
 induction k using Nat.strongRecOn with
 |_ k ih=>
 intro T c4 b1 l1 l U d u9000_ V b3 b4 b5 o w hB hr1 hc1 ho4 h
 cases k with
 |zero=>exact absurd h (by simp [spec_l06Walk.f])
 |succ k=>
 simp only[spec_l06Walk.f]at h
 have hu43:=Try.underlying43
 have d7:=am_ hr1
 have d8:=am_ hc1
 clear hr1 hc1
 have O:=am_ (show Kd.R Kd.bool 4 w o.heap.size (fun k_=>(d k_∨w.heap.size≤k_)) u9000_ V from Kd.R_mono ho4 (fun k_ hk=>(.inl hk)))
 have HK:=am_ (Kept.refl w (fun k_=>d k_))
 have HW0:=am_ hB.size
 have HB:=am_ hB
 clear hB
 have H:(if 0≤l then (if l<(V.length:Int) then (spec_l06Walk.l0 k T l1 l U (V.set (l:Int).toNat true) (([l]:List Int)) 0) else (none)) else (none))=some (b3,b4,b5):=h
 clear h
 generalize X:(([l]:List Int))=h3 at H;replace H:=bh_ H;have Y:=am_ X.symm;clear X
 refine ig_ H ?_;clear H;intro Z H
 refine ig_ H ?_;clear H;intro a0 H
 generalize a1:(V.set (l:Int).toNat true)=f3 at H;replace H:=bh_ H;have b6:=am_ a1.symm;clear a1;have H' :=am_ H;clear H
 go_enter Try.func136,Try.ntmps136
 go_wp2_with (first|((with_reducible refine gd_ 18 ?_);refine Kd.R_lit (Kd.int .i64) _ 3 ?hg (N:=18) ?hd (xs:=([l]:List Int)) (inner:=[.int .i64 l]) (ok:=fun _=>True) (okp:=fun _=>True) ?hr ?hp (fun _ hk=>hk) trivial (Below.refl _ _) (Nat.le_refl _) (by simp) ?_;(case hd=>rfl);(case hg=>rfl);(case hr=>first|(go_simp;done)|(go_simp;rfl));(case hp=>exact(Reps.one (show Kd.M (Kd.int .i64) _ _ _ l [.int .i64 l] from rfl) (Reps.none _ _)));intro j6 f4 ho10 hb hg_ hnew_;clear hg_ hnew_;(first|rw[←Y.out]at ho10|(simp only[Int.reduceToNat]at ho10;rw[←Y.out]at ho10));have d4:=am_ (Kd.R_lower (Kd.R_newM (M:=fun k_=>(d k_∨w.heap.size≤k_)) ho10 (by first|exact HK.out.1|exact(show Kept w _ (fun k_=>d k_) from qK_).1) (fun k_ h_=> .inr h_)) (below_size qB_));replace O:=kb_ O hb;replace HK:=am_ (Kept.below (S:=(fun k_=>d k_)) (qK_) hb);replace HB:=hs_ hb;clear hb ho10;have a8:=dp_ l;have a9:(l:Int)<((V.length:Int):Int):=of_decide_eq_true qa_;obtain⟨m,a2,f5,f6,d9,h4,c6⟩:=Kd.R_form O.out (by omega);(first|cases f5|(injection f5 with ea_ en_ ec_;(first|subst ea_|(injection ea_ with ea_;subst ea_));subst ec_;clear en_));have e0:=am_ f6;have h5:=am_ c6;clear f6 d9 c6;have e1:=am_ (show(d m∨w.heap.size≤m) from(O.out.1 _ rfl));obtain⟨e2,e3⟩:=Kd.R_celln false O.out (l:Int) a8 a9;replace a8:=eq_true a8;replace a9:=eq_true a9;obtain⟨hy11_,hz11_⟩:=Kd.R_celln false O.out (l:Int) (of_decide_eq_true qa_) (of_decide_eq_true qa_);have a3:=Kd.R_putg O.out (l:Int) true)|((with_reducible refine gate_store (t:=4) (p:=21) rfl ?_);refine store_event (t:=4) (p:=21) (v:= ?vo_w12) (w1:=(f4.setCell ⟨m,(l:Int).toNat,none⟩ (.bool true))) ?hg ?ho ?hn ?hr ?_;(case ho=>rfl);(case hg=>rfl);(case hn=>rfl);(case hr=>first|(go_simp;done)|(go_simp;rfl));intro b7 hw;have hg:f4.grownBy b7 (some m):=(by rw[hw];exact a3.2);have hp_:Kd.R Kd.bool 4 b7 o.heap.size (fun k_=>(d k_∨w.heap.size≤k_)) (.slice (some ⟨m,0,none⟩) V.length a2) f3:=(by rw[hw,b6.out];exact a3.1);clear a3;refine dn4_ (am_ (hp_)) (am_ (Kd.R_over' (v:=(.slice (some ⟨m,0,none⟩) V.length a2)) (qR_ d4) (Kd.R_typed O.out) (by decide) hg)) (am_ ((by rw[hw];exact below_set (HB.out) e0.out:Below o.heap.size o b7))) (am_ (Kept.of_grown (S:=(fun k_=>d k_)) hg (qK_) (fun k_ e_=>(O.out.1 k_ e_)))) ?_;clear O d4 HB HK;intro O d4 HB HK;clear hg hw hp_))
 go_loopg [12,13] k (fun kq v12 v13 w' =>∃ (g:List Bool) (j:List Int) (a:Int),v13= .int .i64 a∧Aside0 (spec_l06Walk.l0 kq T l1 l U g j a=some (b3,b4,b5))∧Aside0 (kq≤k)∧Aside0 (Kd.R Kd.bool 4 w' o.heap.size (fun k_=>(d k_∨w.heap.size≤k_)) (.slice (some ⟨m,0,none⟩) V.length a2) g)∧Aside0 (Kd.R (Kd.int .i64) 3 w' o.heap.size (fun k_=>(d k_∨w.heap.size≤k_)) v12 j)∧Aside0 (Kept w w' (fun k_=>d k_))∧Aside0 (Below o.heap.size o w'))
 case atStart=>exact⟨(f3),(h3),(0),qe_,H',⟨Nat.le_refl _⟩,⟨ra_ O⟩,⟨by(with_reducible repeat(first|apply Kd.R_alloc|apply Kd.R_drewN|apply Kd.R_drew));exact Kd.R_mono d4.out (fun _ hk=>hk.1)⟩,⟨qK_⟩,⟨qB_⟩⟩
 case round=>
  clear H' Z a0 a8 a9 e2
  obtain⟨g,j,a,rfl,HA,HK1,i,n,HK,HB⟩:=hrel
  have c:=(Kd.R_reads' i.out).1
  rw[c]at i
  simp only[c]
  cases gk with
  |zero=>exact absurd HA.out (by simp [spec_l06Walk.l0])
  |succ h6=>
   have H:=HA.out;clear HA
   simp only[spec_l06Walk.l0]at H
   refine ib_ H ?_ ?_<;>clear H<;>intro G H<;>skip
   ·simp only[Option.some.injEq,Prod.mk.injEq]at H
    obtain⟨rfl,rfl,rfl⟩:=H
    go_wp2
    go_ret2
    exact⟨_,qr_,qR_ n,(by first|exact(qR_ i)|(simp only[c];exact(qR_ i))),qB_,qK_⟩
   have e4:=am_ H
   clear H
   go_upto_if 32 with (first|((with_reducible refine gd_ 14 ?_);refine by_ 14 (cs:= #[.int .i64 0,.int .i64 0]) (t:=43) ?_;intro F hg h7 q hb;have y:=am_ ((by rw[hg];exact(by first|exact HK.out.1|exact(show Kept w _ (fun k_=>d k_) from qK_).1):w.heap.size≤F));have d6:=am_ ((qs_:o.heap.size≤F));replace i:=kb_ i hb;replace n:=kb_ n hb;replace HK:=am_ (Kept.below (S:=(fun k_=>d k_)) (qK_) hb);replace HB:=hs_ hb;clear hb hg;obtain⟨g0,g1,g2,g3⟩:=bc2_ q))
   go_cut [] (fun wc=>∃ (kq:Nat) (c8:Int) (c9:Int),Aside0 (spec_l06Walk.j1 kq T l1 l U g j a c8 c9=some (b3,b4,b5))∧Aside0 (kq≤h6)∧Aside0 (Kd.R Kd.bool 4 wc o.heap.size (fun k_=>(d k_∨w.heap.size≤k_)) (.slice (some ⟨m,0,none⟩) g.length a2) g)∧Aside0 (Kd.R (Kd.int .i64) 3 wc o.heap.size (fun k_=>(d k_∨w.heap.size≤k_)) u12 j)∧Aside0 (wc.heap[F]? =some (.cells #[.int .i64 c8,.int .i64 c9] 43 (0,0)))∧Aside0 (Kept w wc (fun k_=>d k_))∧Aside0 (Below o.heap.size o wc))
   case first=>
    have H:=e4.out;clear e4
    refine ic_ H ?_ ?_<;>clear H<;>intro s H
    ·(first|rw[s]|(simp only[i64_w,i32_w];rw[s])|skip)
     have H' :=am_ H;clear H
     obtain⟨g4,g5,g6,g7⟩:=bc2_ q
     go_wp2
     go_meet
     case rel=>exact⟨_,(l),(a),H',⟨by have:=HK1.out;first|omega|exact Nat.le_refl _⟩,⟨by(with_reducible repeat(first|apply Kd.R_alloc|apply Kd.R_drewN|apply Kd.R_drew));exact Kd.R_mono (Kd.R_far (p:=⟨F,1,none⟩) (Kd.R_far (p:=⟨F,0,none⟩) (Kd.R_far (p:=⟨F,1,none⟩) (Kd.R_far (p:=⟨F,0,none⟩) (Kd.R_types i.out q.out (by decide)) (fun _ hk=>hk.2) (.int .i64 a)) (fun _ hk=>hk.2) (.int .i64 l)) (fun _ hk=>hk.2) (.int .i64 l)) (fun _ hk=>hk.2) (.int .i64 a)) (fun _ hk=>hk.1)⟩,⟨by(with_reducible repeat(first|apply Kd.R_alloc|apply Kd.R_drewN|apply Kd.R_drew));exact Kd.R_mono (Kd.R_far (p:=⟨F,1,none⟩) (Kd.R_far (p:=⟨F,0,none⟩) (Kd.R_far (p:=⟨F,1,none⟩) (Kd.R_far (p:=⟨F,0,none⟩) (Kd.R_types n.out q.out (by decide)) (fun _ hk=>hk.2) (.int .i64 a)) (fun _ hk=>hk.2) (.int .i64 l)) (fun _ hk=>hk.2) (.int .i64 l)) (fun _ hk=>hk.2) (.int .i64 a)) (fun _ hk=>hk.1)⟩,⟨by(with_reducible repeat(first|refine blk_drewN ?_ _|refine blk_drew ?_|refine blk_alloc ?_ _));refine blk_put (cs:= #[.int .i64 l,.int .i64 l]) ?_ 1 _ rfl;(with_reducible repeat(first|refine blk_drewN ?_ _|refine blk_drew ?_|refine blk_alloc ?_ _));refine blk_put (cs:= #[.int .i64 a,.int .i64 l]) ?_ 0 _ rfl;(with_reducible repeat(first|refine blk_drewN ?_ _|refine blk_drew ?_|refine blk_alloc ?_ _));refine blk_put (cs:= #[.int .i64 a,.int .i64 0]) ?_ 1 _ rfl;(with_reducible repeat(first|refine blk_drewN ?_ _|refine blk_drew ?_|refine blk_alloc ?_ _));refine blk_put (cs:= #[.int .i64 0,.int .i64 0]) ?_ 0 _ rfl;exact qf_ q⟩,⟨qK_⟩,⟨qB_⟩⟩
    (first|rw[s]|(simp only[i64_w,i32_w];rw[s])|skip)
    have H' :=am_ H;clear H
    go_wp2
    go_meet
    case rel=>exact⟨_,(a),(l),H',⟨by have:=HK1.out;first|omega|exact Nat.le_refl _⟩,⟨by(with_reducible repeat(first|apply Kd.R_alloc|apply Kd.R_drewN|apply Kd.R_drew));exact Kd.R_mono (Kd.R_far (p:=⟨F,1,none⟩) (Kd.R_far (p:=⟨F,0,none⟩) (Kd.R_types i.out q.out (by decide)) (fun _ hk=>hk.2) (.int .i64 a)) (fun _ hk=>hk.2) (.int .i64 l)) (fun _ hk=>hk.1)⟩,⟨by(with_reducible repeat(first|apply Kd.R_alloc|apply Kd.R_drewN|apply Kd.R_drew));exact Kd.R_mono (Kd.R_far (p:=⟨F,1,none⟩) (Kd.R_far (p:=⟨F,0,none⟩) (Kd.R_types n.out q.out (by decide)) (fun _ hk=>hk.2) (.int .i64 a)) (fun _ hk=>hk.2) (.int .i64 l)) (fun _ hk=>hk.1)⟩,⟨by(with_reducible repeat(first|refine blk_drewN ?_ _|refine blk_drew ?_|refine blk_alloc ?_ _));refine blk_put (cs:= #[.int .i64 a,.int .i64 0]) ?_ 1 _ rfl;(with_reducible repeat(first|refine blk_drewN ?_ _|refine blk_drew ?_|refine blk_alloc ?_ _));refine blk_put (cs:= #[.int .i64 0,.int .i64 0]) ?_ 0 _ rfl;exact qf_ q⟩,⟨qK_⟩,⟨qB_⟩⟩
   case rest=>
    clear e4 G g0 g1 g2 g3
    obtain⟨kq,c8,c9,HA,b2,i,n,q,HK,HB⟩:=hcut
    cases kq with
    |zero=>exact absurd HA.out (by simp [spec_l06Walk.j1])
    |succ kj13=>
     have H:=HA.out;clear HA
     simp only[spec_l06Walk.j1]at H
     have e7:=am_ H
     clear H
     go_upto_region 9 with (fail)
     go_cut [44] (fun v44 wc=>∃ (kq:Nat) (z:Bool),v44= .bool z∧Aside0 (spec_l06Walk.j2 kq T l1 l U g j a z=some (b3,b4,b5))∧Aside0 (kq≤kj13)∧Aside0 (Kd.R Kd.bool 4 wc o.heap.size (fun k_=>(d k_∨w.heap.size≤k_)) (.slice (some ⟨m,0,none⟩) g.length a2) g)∧Aside0 (Kd.R (Kd.int .i64) 3 wc o.heap.size (fun k_=>(d k_∨w.heap.size≤k_)) u12 j)∧Aside0 (wc.heap[F]? =some (.cells #[.int .i64 c8,.int .i64 c9] 43 (0,0)))∧Aside0 (Kept w wc (fun k_=>d k_))∧Aside0 (Below o.heap.size o wc))
     case first=>
      have H:=e7.out;clear e7
      refine jc_ H ?_ ?_<;>clear H<;>intro L H
      ·have u:(a==U)=true:=beq_iff_eq.mpr L
       have A:(a != U)=false:=bne_eq_false_iff_eq.mpr L
       clear L
       (first|rw[u]|rw[A]|(simp only[i64_w,i32_w];rw[u])|skip)
       have H' :=am_ H;clear H
       go_wp2
       go_meet
       case rel=>exact⟨_,(true),qe_,H',⟨by have:=HK1.out;have:=b2.out;first|omega|exact Nat.le_refl _⟩,⟨by(with_reducible repeat(first|apply Kd.R_alloc|apply Kd.R_drewN|apply Kd.R_drew));first|exact i.out|(have h_:=i.out;simp only[own_slice]at h_ ⊢;exact h_)⟩,⟨by(with_reducible repeat(first|apply Kd.R_alloc|apply Kd.R_drewN|apply Kd.R_drew));first|exact n.out|(have h_:=n.out;simp only[own_slice]at h_ ⊢;exact h_)⟩,⟨by exact qf_ q⟩,⟨qK_⟩,⟨qB_⟩⟩
      have u:(a==U)=false:=beq_eq_false_iff_ne.mpr L
      have A:(a != U)=true:=bne_iff_ne.mpr L
      (first|rw[u]|rw[A]|(simp only[i64_w,i32_w];rw[u])|skip)
      obtain⟨g8,e8,H⟩:=bs_ H
      have H' :=am_ H;clear H
      obtain⟨h8,h9,i0,i1⟩:=bc2_ q
      go_wp2_with (first|(go_at_call 101;(with_reducible refine(spec_l05Has.calls kj13 _ _ l1 c8 c9 g8 _ ?side1 ?side2 e8.out).mono ?_);(case side1=>exact Kd.C_kept_now d7.out (qK_));(case side2=>exact d8.out);rintro e i2 ⟨rfl,hb⟩;replace i:=kb_ i hb;replace n:=kb_ n hb;replace q:=qbl_ q hb;replace HK:=am_ (Kept.below (S:=(fun k_=>d k_)) (qK_) hb);replace HB:=hs_ hb;clear hb))
      go_meet
      case rel=>exact⟨_,(!g8),qe_,H',⟨by have:=HK1.out;have:=b2.out;first|omega|exact Nat.le_refl _⟩,⟨by(with_reducible repeat(first|apply Kd.R_alloc|apply Kd.R_drewN|apply Kd.R_drew));first|exact i.out|(have h_:=i.out;simp only[own_slice]at h_ ⊢;exact h_)⟩,⟨by(with_reducible repeat(first|apply Kd.R_alloc|apply Kd.R_drewN|apply Kd.R_drew));first|exact n.out|(have h_:=n.out;simp only[own_slice]at h_ ⊢;exact h_)⟩,⟨by exact qf_ q⟩,⟨qK_⟩,⟨qB_⟩⟩
     case rest=>
      clear e7
      obtain⟨kq,z,rfl,HA,c2,i,n,q,HK,HB⟩:=hcut
      cases kq with
      |zero=>exact absurd HA.out (by simp [spec_l06Walk.j2])
      |succ kj18=>
       have H:=HA.out;clear HA
       simp only[spec_l06Walk.j2]at H
       refine ie_ H ?_ ?_<;>clear H<;>rintro rfl H
       ·have H' :=am_ H;clear H
        go_wp2
        simp only[←c]
        go_roundg kj18
        case measure=>have:=HK1.out;have:=b2.out;have:=c2.out;omega
        case rel=>exact⟨(g),(j),(wrap64 (a + 1)),qe_,H',⟨by have:=HK1.out;have:=b2.out;have:=c2.out;omega⟩,⟨by simp only[c];(with_reducible repeat(first|apply Kd.R_alloc|apply Kd.R_drewN|apply Kd.R_drew));first|exact i.out|(have h_:=i.out;simp only[own_slice]at h_ ⊢;exact h_)⟩,⟨by(with_reducible repeat(first|apply Kd.R_alloc|apply Kd.R_drewN|apply Kd.R_drew));first|exact n.out|(have h_:=n.out;simp only[own_slice]at h_ ⊢;exact h_)⟩,⟨qK_⟩,⟨qB_⟩⟩
       refine ig_ H ?_;clear H;intro e9 H
       refine ig_ H ?_;clear H;intro f0 H
       generalize a4:(rdOf false g a)=g9 at H;have I:=am_ a4.symm;clear a4
       refine ie_ H ?_ ?_<;>clear H<;>rintro rfl H
       ·simp only[Option.some.injEq,Prod.mk.injEq]at H
        obtain⟨rfl,rfl,rfl⟩:=H
        have B:=dt_ a
        have D:=du_ a g.length
        obtain⟨x,E,J⟩:=Kd.at_bool (Kd.R_reads' i.out).2.2 a (ot_ B) (ot_ D)
        rw[←I.out]at J
        obtain rfl:(⟨m,0,none⟩:Addr)=x:=(by injection E)
        simp only[add_plain]at J
        simp only[add_plain]at *
        go_wp2
        go_ret2
        exact⟨_,qr_,qR_ n,(by first|exact(qR_ i)|(simp only[c];exact(qR_ i))),qB_,qK_⟩
       obtain⟨⟨c3,j8,f1⟩,d0,H⟩:=bs_ H;dsimp only at H
       refine ie_ H ?_ ?_<;>clear H<;>rintro rfl H
       ·simp only[Option.some.injEq,Prod.mk.injEq]at H
        obtain⟨rfl,rfl,rfl⟩:=H
        have B:=dt_ a
        have D:=du_ a g.length
        obtain⟨x,E,J⟩:=Kd.at_bool (Kd.R_reads' i.out).2.2 a (ot_ B) (ot_ D)
        rw[←I.out]at J
        obtain rfl:(⟨m,0,none⟩:Addr)=x:=(by injection E)
        simp only[add_plain]at J
        simp only[add_plain]at *
        go_wp2_with (first|((with_reducible refine gc_ 136 ?_);refine gl_ (some 56) Try.func136 #[.int .i64 T,.slice c4 l1.length b1,.int .i64 a,.int .i64 l,.slice (some ⟨m,0,none⟩) g.length a2] ?_;(with_reducible refine(ih kj18 (by have:=HK1.out;have:=b2.out;have:=c2.out;omega) T _ _ l1 a l (fun k_=>some k_=(.slice (some ⟨m,0,none⟩) g.length a2:Value).ownBlock) (.slice (some ⟨m,0,none⟩) g.length a2) g c3 true f1 o _ ?side1 ?side2 ?side3 ?side4 d0.out).mono ?_);(case side1=>exact qB_);(case side2=>exact Kd.C_kept_call d7.out (qK_) (fun k_ hs_=>(fun e_=>(i.out.1 k_ e_.symm)) hs_));(case side3=>exact d8.out);(case side4=>exact Kd.R_tight rfl i.out);rintro e i3 ⟨f2,rfl,ho0,a5,hb,hkp⟩;refine⟨_,rfl,?_⟩;refine dn6_ (am_ (Kd.R_reok rfl a5 (fun k_ e_=>i.out.1 k_ e_))) (am_ (Kd.R_mono (ok' :=fun k_=>(d k_∨w.heap.size≤k_)∧some k_≠(f2:Value).ownBlock) (Kd.R_keptB ((Kd.R_apart' n.out (Kd.R_typed i.out) (by decide))) hkp (fun k_ hk_ hs_=>(hk_.2) hs_)) (fun k_ hk_=>⟨hk_.1.1,fun e_=>Or.elim (ho0.1 k_ e_.symm) (fun hs_=>hk_.2.1 hs_) (fun hn_=>Nat.not_le.2 hk_.2.2 hn_)⟩))) (qkp_ q hkp (fun hs_=>(fun e_=>(Kd.R_ne i.out q.out (by decide)) e_) hs_)) (am_ (Kd.R_mono (ok' :=fun k_=>(d k_∨w.heap.size≤k_)∧some k_≠(u12:Value).ownBlock) ho0 (fun k_ hk_=>⟨Or.elim hk_ (fun hs_=>(i.out.1 k_ (hs_).symm)) (fun hn_=>(.inr (Nat.le_trans (by first|exact HK.out.1|exact(show Kept w _ (fun k_=>d k_) from qK_).1) hn_))),Or.elim hk_ (fun hs_=>fun e_=>((((Kd.R_apart' n.out (Kd.R_typed i.out) (by decide))).1 k_ e_.symm).2) hs_) (fun hn_=>(Kd.fresh' (Kd.R_lt (qR_ n)) k_ hn_))⟩))) (am_ (Kept.then_ (S:=(fun k_=>d k_)) (qK_) hkp (fun k_ hs_=>(fun e_=>(i.out.1 k_ e_.symm)) hs_))) (am_ (hb)) ?_;clear i n q HK HB;intro i n q b0 HK HB;clear hb hkp ho0 a5))
        go_ret2
        exact⟨_,qr_,by(with_reducible repeat(first|apply Kd.R_alloc|apply Kd.R_drewN|apply Kd.R_drew));exact Kd.R_mono n.out (fun _ hk=>hk.1),(by first|exact(qR_ i)|(simp only[c];exact(qR_ i))),qB_,qK_⟩
       refine jg_ H ?_;clear H;intro d1 H
       have b8:=am_ d1
       clear d1
       generalize a6:(j++c3)=h0 at H;replace H:=bh_ H;have b9:=am_ a6.symm;clear a6
       refine jg_ H ?_;clear H;intro d2 H
       have c0:=am_ d2
       clear d2
       generalize a7:(h0++[l])=i4 at H;replace H:=bh_ H;have c1:=am_ a7.symm;clear a7;have H' :=am_ H;clear H
       have B:=dt_ a
       have D:=du_ a g.length
       obtain⟨x,E,J⟩:=Kd.at_bool (Kd.R_reads' i.out).2.2 a (ot_ B) (ot_ D)
       rw[←I.out]at J
       obtain rfl:(⟨m,0,none⟩:Addr)=x:=(by injection E)
       simp only[add_plain]at J
       simp only[add_plain]at *
       go_wp2_with (first|((with_reducible refine gc_ 136 ?_);refine gl_ (some 56) Try.func136 #[.int .i64 T,.slice c4 l1.length b1,.int .i64 a,.int .i64 l,.slice (some ⟨m,0,none⟩) g.length a2] ?_;(with_reducible refine(ih kj18 (by have:=HK1.out;have:=b2.out;have:=c2.out;omega) T _ _ l1 a l (fun k_=>some k_=(.slice (some ⟨m,0,none⟩) g.length a2:Value).ownBlock) (.slice (some ⟨m,0,none⟩) g.length a2) g c3 false f1 o _ ?side1 ?side2 ?side3 ?side4 d0.out).mono ?_);(case side1=>exact qB_);(case side2=>exact Kd.C_kept_call d7.out (qK_) (fun k_ hs_=>(fun e_=>(i.out.1 k_ e_.symm)) hs_));(case side3=>exact d8.out);(case side4=>exact Kd.R_tight rfl i.out);rintro e i5 ⟨f2,rfl,ho0,a5,hb,hkp⟩;refine⟨_,rfl,?_⟩;refine dn6_ (am_ (Kd.R_reok rfl a5 (fun k_ e_=>i.out.1 k_ e_))) (am_ (Kd.R_mono (ok' :=fun k_=>(d k_∨w.heap.size≤k_)∧some k_≠(f2:Value).ownBlock) (Kd.R_keptB ((Kd.R_apart' n.out (Kd.R_typed i.out) (by decide))) hkp (fun k_ hk_ hs_=>(hk_.2) hs_)) (fun k_ hk_=>⟨hk_.1.1,fun e_=>Or.elim (ho0.1 k_ e_.symm) (fun hs_=>hk_.2.1 hs_) (fun hn_=>Nat.not_le.2 hk_.2.2 hn_)⟩))) (qkp_ q hkp (fun hs_=>(fun e_=>(Kd.R_ne i.out q.out (by decide)) e_) hs_)) (am_ (Kd.R_mono (ok' :=fun k_=>(d k_∨w.heap.size≤k_)∧some k_≠(u12:Value).ownBlock) ho0 (fun k_ hk_=>⟨Or.elim hk_ (fun hs_=>(i.out.1 k_ (hs_).symm)) (fun hn_=>(.inr (Nat.le_trans (by first|exact HK.out.1|exact(show Kept w _ (fun k_=>d k_) from qK_).1) hn_))),Or.elim hk_ (fun hs_=>fun e_=>((((Kd.R_apart' n.out (Kd.R_typed i.out) (by decide))).1 k_ e_.symm).2) hs_) (fun hn_=>(Kd.fresh' (Kd.R_lt (qR_ n)) k_ hn_))⟩))) (am_ (Kept.then_ (S:=(fun k_=>d k_)) (qK_) hkp (fun k_ hs_=>(fun e_=>(i.out.1 k_ e_.symm)) hs_))) (am_ (hb)) ?_;clear i n q HK HB;intro i n q b0 HK HB;clear hb hkp ho0 a5;obtain⟨h1,h2,i6⟩:=Kd.R_slice b0.out;subst i6)|((with_reducible refine gate_builtin (b:= .append) (xs:= #[.tmp 61,.tmp 62]) rfl ?_);at_builtin;refine Kd.R_append_rows (Kd.int .i64) (w0:=o) o.heap.size rfl (.tmp 61) (.tmp 62) 51 3 (.int .i64 0) 8 rfl Try.underlying51 info3 rfl (by decide) (by omega) u12 j c3 _ _ _ (fun k_=>(d k_∨w.heap.size≤k_)∧some k_≠(.slice h1 c3.length h2:Value).ownBlock) (fun _=>False) rfl rfl ?aO ?aR (fun _ _ h=>h) (fun _ h=>h.elim) ?aF ?aB ?aS ?aL ?_;(case aR=>repeat(first|exact(Kd.R_reads' b0.out).2.2|(with_reducible refine Kd.C_alloc ?_ _)|(with_reducible refine Kd.C_drewN ?_ _)|(with_reducible refine Kd.C_drew ?_)));(case aB=>exact qB_);(case aF=>exact(fun k_ hk=>⟨(.inr (Nat.le_trans (by first|exact HK.out.1|exact(show Kept w _ (fun k_=>d k_) from qK_).1) hk)),Kd.fresh' (Kd.R_lt (qR_ b0)) k_ hk⟩));(case aO=>exact(qR_ n));(case aS=>exact(below_size qB_));(case aL=>have:=b8.out;omega);intro i7 i8 ho hb hg hat;rw[←b9.out]at ho;have d3:=am_ (ho);replace i:=am_ (Kd.R_over' (qR_ i) (Kd.R_typed (qR_ n)) (by decide) hg);replace q:=am_ (blk_grown (qk_ q) hg (Kd.R_ne n.out q.out (by decide)));replace b0:=am_ (Kd.R_after (ok:=(fun k_=>(d k_∨w.heap.size≤k_))) (qR_ b0) hg hat);replace HK:=am_ (Kept.of_grown (S:=(fun k_=>d k_)) hg (qK_) (fun k_ e_=>(n.out.1 k_ e_).1));replace HB:=am_ (hb);clear n ho hb hg hat)|((with_reducible refine gate_builtin (b:= .append) (xs:= #[.tmp 63,.tmp 65]) rfl ?_);at_builtin;refine Kd.R_append (Kd.int .i64) (w0:=o) o.heap.size rfl (.tmp 63) (.tmp 65) 51 3 (.int .i64 0) 8 rfl Try.underlying51 info3 rfl (by decide) (by omega) i7 h0 l [.int .i64 l] (fun k_=>(d k_∨w.heap.size≤k_)∧some k_≠(.slice h1 c3.length h2:Value).ownBlock) (fun _=>False) rfl rfl ?aP (fun _ hk=>hk.elim) ?aF ?aO ?aB ?aS ?aL ?_;(case aP=>exact rfl);(case aB=>exact qB_);(case aF=>exact(fun k_ hk=>⟨(.inr (Nat.le_trans (by first|exact HK.out.1|exact(show Kept w _ (fun k_=>d k_) from qK_).1) hk)),Kd.fresh' (Kd.R_lt (qR_ b0)) k_ hk⟩));(case aO=>exact(qR_ d3));(case aS=>exact(below_size qB_));(case aL=>have:=c0.out;omega);intro j9 i9 ho hb hg hat;rw[←c1.out]at ho;have j5:=am_ (ho);replace i:=am_ (Kd.R_over' (qR_ i) (Kd.R_typed (qR_ d3)) (by decide) hg);replace q:=am_ (blk_grown (qk_ q) hg (Kd.R_ne d3.out q.out (by decide)));replace b0:=am_ (Kd.R_after (ok:=(fun k_=>(d k_∨w.heap.size≤k_))) (qR_ b0) hg hat);replace HK:=am_ (Kept.of_grown (S:=(fun k_=>d k_)) hg (qK_) (fun k_ e_=>(d3.out.1 k_ e_).1));replace HB:=am_ (hb);clear d3 ho hb hg hat))
       simp only[←c]
       go_roundg kj18
       case measure=>have:=HK1.out;have:=b2.out;have:=c2.out;omega
       case rel=>exact⟨(f1),(i4),(wrap64 (a + 1)),qe_,H',⟨by have:=HK1.out;have:=b2.out;have:=c2.out;omega⟩,⟨by simp only[c];(with_reducible repeat(first|apply Kd.R_alloc|apply Kd.R_drewN|apply Kd.R_drew));first|exact i.out|(have h_:=i.out;simp only[own_slice]at h_ ⊢;exact h_)⟩,⟨by(with_reducible repeat(first|apply Kd.R_alloc|apply Kd.R_drewN|apply Kd.R_drew));exact Kd.R_mono j5.out (fun _ hk=>hk.1)⟩,⟨qK_⟩,⟨qB_⟩⟩
mutual
def spec_TourOf.j0:Nat→Int→List (S43)→Int→Bool→Option (List Int × Bool)
  |0,_,_,_,_=>none
  |k + 1,x0,x1,x2,x20=>if x20=true then (some ((([]:List Int)),false)) else (spec_TourOf.l0 k x0 x1 x2 0)
def spec_TourOf.l0:Nat→Int→List (S43)→Int→Int→Option (List Int × Bool)
  |0,_,_,_,_=>none
  |k + 1,x0,x1,x2,x8=>if x8<(x1.length:Int) then (if 0≤x8 then ((spec_EdgeOk.f x0 ((rd_T43 x1 x8).f0) ((rd_T43 x1 x8).f1)).bind fun t262=>(if t262=true then (spec_TourOf.l0 k x0 x1 x2 (wrap64 (x8 + 1))) else (some ((([]:List Int)),false)))) else (none)) else (if 0≤x0 then (if (x0:Int).toNat≤281474976710656 then ((spec_l06Walk.f k x0 x1 x2 (-1) (List.replicate (x0:Int).toNat false)).bind fun bt269=>(if bt269.2.1=true then (some ((([]:List Int)),false)) else (some (bt269.1,true)))) else (none)) else (none))
end
def spec_TourOf.f (k:Nat) (a0:Int) (l1:List (S43)) (a2:Int):Option (List Int × Bool):=(spec_l01In.f a0 1 12).bind fun t256=>(if t256=true then ((spec_l01In.f a2 0 (wrap64 (a0 - 1))).bind fun t257=>(spec_TourOf.j0 k a0 l1 a2 (!t257))) else (spec_TourOf.j0 k a0 l1 a2 true))
theorem spec_TourOf.calls (k:Nat) (c:Int) (T:Option Addr) (D:Nat) (l1:List (S43)) (j:Int) (E:List Int) (F:Bool) (w:World) (hr1:Kd.C k43 w T l1.length l1) (hc1:l1.length≤D) (h:spec_TourOf.f k c l1 j=some (E,F)):
  Calls Try.prog 109 #[.int .i64 c,.slice T l1.length D,.int .i64 j] w fun e w' =>∃ G:Value,e= .returned (.tuple #[G,.bool F])∧Kd.R (Kd.int .i64) 3 w' w.heap.size (fun _=>True) G E∧Below w.heap.size w w' :=by
 have hu43:=Try.underlying43
 have U:=am_ hr1
 have a9:=am_ hc1
 clear hr1 hc1
 have HB:=am_ (Below.refl w.heap.size w)
 have H:((spec_l01In.f c 1 12).bind fun b0=>(if b0=true then ((spec_l01In.f j 0 (wrap64 (c - 1))).bind fun V=>(spec_TourOf.j0 k c l1 j (!V))) else (spec_TourOf.j0 k c l1 j true)))=some (E,F):=h
 clear h
 have X:=am_ H
 clear H
 go_enter Try.func109,Try.ntmps109
 go_upto_region 1 with (fail)
 go_cut [20] (fun v20 wc=>∃ (kq:Nat) (g:Bool),v20= .bool g∧Aside0 (spec_TourOf.j0 kq c l1 j g=some (E,F))∧Aside0 (kq≤k)∧Aside0 (Below w.heap.size w wc))
 case first=>
  have H:=X.out;clear X
  obtain⟨b0,b1,H⟩:=bs_ H
  refine ie_ H ?_ ?_<;>clear H<;>rintro rfl H
  ·obtain⟨V,b7,H⟩:=bs_ H
   have H' :=am_ H;clear H
   go_wp2_with (first|((with_reducible refine gc_ 57 ?_);refine gl_ (some 12) Try.func57 #[.int .i64 c,.int .i64 1,.int .i64 12] ?_;(with_reducible refine(spec_l01In.calls c 1 12 true _ b1.out).mono ?_);rintro e w' ⟨rfl,⟨nd,rfl⟩⟩;refine⟨_,rfl,?_⟩)|(go_at_call 57;(with_reducible refine(spec_l01In.calls j 0 (wrap64 (c - 1)) V _ b7.out).mono ?_);rintro e w' ⟨rfl,⟨nd,rfl⟩⟩))
   go_meet
   case rel=>exact⟨_,(!V),qe_,H',⟨qo_⟩,⟨qB_⟩⟩
  have H' :=am_ H;clear H
  go_wp2_with (first|((with_reducible refine gc_ 57 ?_);refine gl_ (some 12) Try.func57 #[.int .i64 c,.int .i64 1,.int .i64 12] ?_;(with_reducible refine(spec_l01In.calls c 1 12 false _ b1.out).mono ?_);rintro e w' ⟨rfl,⟨nd,rfl⟩⟩;refine⟨_,rfl,?_⟩))
  go_meet
  case rel=>exact⟨_,(true),qe_,H',⟨qo_⟩,⟨qB_⟩⟩
 case rest=>
  clear X
  obtain⟨kq,g,rfl,HA,b4,HB⟩:=hcut
  cases kq with
  |zero=>exact absurd HA.out (by simp [spec_TourOf.j0])
  |succ kj3=>
   have H:=HA.out;clear HA
   simp only[spec_TourOf.j0]at H
   refine ie_ H ?_ ?_<;>clear H<;>rintro rfl H
   ·generalize l:(([]:List Int))=d6 at H;replace H:=bh_ H;have m:=am_ l.symm;clear l
    simp only[Option.some.injEq,Prod.mk.injEq]at H
    obtain⟨rfl,rfl⟩:=H
    go_wp2_with (first|((with_reducible refine gd_ 21 ?_);refine Kd.R_lit (Kd.int .i64) _ 3 ?hg (N:=21) ?hd (xs:=([]:List Int)) (inner:=[]) (ok:=fun _=>True) (okp:=fun _=>True) ?hr ?hp (fun _ hk=>hk) trivial (Below.refl _ _) (Nat.le_refl _) (by simp) ?_;(case hd=>rfl);(case hg=>rfl);(case hr=>first|(go_simp;done)|(go_simp;rfl));(case hp=>exact(Reps.none _ _));intro d7 d8 ho10 hb hg_ hnew_;clear hg_ hnew_;(first|rw[←m.out]at ho10|(simp only[Int.reduceToNat]at ho10;rw[←m.out]at ho10));have c0:=am_ (Kd.R_lower ho10 (below_size qB_));replace HB:=hs_ hb;clear hb ho10))
    go_ret2
    exact⟨_,qr_,qR_ c0,qB_⟩
   have H' :=am_ H;clear H
   go_wp2
   go_loopg [8] kj3 (fun kq v8 w' =>∃ (a:Int),v8= .int .i64 a∧Aside0 (spec_TourOf.l0 kq c l1 j a=some (E,F))∧Aside0 (kq≤kj3)∧Aside0 (Below w.heap.size w w'))
   case atStart=>exact⟨(0),qe_,H',⟨Nat.le_refl _⟩,⟨qB_⟩⟩
   case round=>
    clear H'
    obtain⟨a,rfl,HA,HK2,HB⟩:=hrel
    cases gk with
    |zero=>exact absurd HA.out (by simp [spec_TourOf.l0])
    |succ Y=>
     have H:=HA.out;clear HA
     simp only[spec_TourOf.l0]at H
     refine ic_ H ?_ ?_<;>clear H<;>intro Z H
     ·refine ig_ H ?_;clear H;intro a0 H
      obtain⟨e0,I,H⟩:=bs_ H
      refine ie_ H ?_ ?_<;>clear H<;>rintro rfl H
      ·have H' :=am_ H;clear H
       have n:=dt_ a
       have o:=du_ a l1.length
       obtain⟨z,p,J,L⟩:=at_T43 U.out a (ot_ n) (ot_ o)
       cases p
       replace J:=qx_ HB J
       replace L:=qx_ HB L
       go_wp2_with (first|((with_reducible refine gc_ 71 ?_);refine gl_ (some 33) Try.func71 #[.int .i64 c,.agg #[.int .i64 ((rd_T43 l1 a).f0),.int .i64 ((rd_T43 l1 a).f1)]] ?_;(with_reducible refine(spec_EdgeOk.calls c ((rd_T43 l1 a).f0) ((rd_T43 l1 a).f1) true _ I.out).mono ?_);rintro e c2 ⟨rfl,hb⟩;refine⟨_,rfl,?_⟩;replace HB:=hs_ hb;clear hb))
       go_roundg Y
       case measure=>have:=b4.out;have:=HK2.out;omega
       case rel=>exact⟨(wrap64 (a + 1)),qe_,H',⟨by have:=b4.out;have:=HK2.out;omega⟩,⟨qB_⟩⟩
      generalize q:(([]:List Int))=e1 at H;replace H:=bh_ H;have s:=am_ q.symm;clear q
      simp only[Option.some.injEq,Prod.mk.injEq]at H
      obtain⟨rfl,rfl⟩:=H
      have n:=dt_ a
      have o:=du_ a l1.length
      obtain⟨z,p,J,L⟩:=at_T43 U.out a (ot_ n) (ot_ o)
      cases p
      replace J:=qx_ HB J
      replace L:=qx_ HB L
      go_wp2_with (first|((with_reducible refine gc_ 71 ?_);refine gl_ (some 33) Try.func71 #[.int .i64 c,.agg #[.int .i64 ((rd_T43 l1 a).f0),.int .i64 ((rd_T43 l1 a).f1)]] ?_;(with_reducible refine(spec_EdgeOk.calls c ((rd_T43 l1 a).f0) ((rd_T43 l1 a).f1) false _ I.out).mono ?_);rintro e c3 ⟨rfl,hb⟩;refine⟨_,rfl,?_⟩;replace HB:=hs_ hb;clear hb)|((with_reducible refine gd_ 35 ?_);refine Kd.R_lit (Kd.int .i64) _ 3 ?hg (N:=35) ?hd (xs:=([]:List Int)) (inner:=[]) (ok:=fun _=>True) (okp:=fun _=>True) ?hr ?hp (fun _ hk=>hk) trivial (Below.refl _ _) (Nat.le_refl _) (by simp) ?_;(case hd=>rfl);(case hg=>rfl);(case hr=>first|(go_simp;done)|(go_simp;rfl));(case hp=>exact(Reps.none _ _));intro e2 c4 ho18 hb hg_ hnew_;clear hg_ hnew_;(first|rw[←s.out]at ho18|(simp only[Int.reduceToNat]at ho18;rw[←s.out]at ho18));have c5:=am_ (Kd.R_lower ho18 (below_size qB_));replace HB:=hs_ hb;clear hb ho18))
      go_ret2
      exact⟨_,qr_,qR_ c5,qB_⟩
     refine jg_ H ?_;clear H;intro A H
     have a1:=eq_true A
     have a2:=decide_eq_true A
     clear A
     refine jg_ H ?_;clear H;intro B H
     have a3:=eq_true B
     have a4:=decide_eq_true B
     clear B
     generalize t:(List.replicate (c:Int).toNat false:List Bool)=y at H;replace H:=bh_ H;have d:=am_ t.symm;clear t
     obtain⟨⟨b5,e3,b6⟩,M,H⟩:=bs_ H;dsimp only at H
     refine id_ H ?_ ?_<;>clear H<;>rintro rfl H
     ·simp only[Option.some.injEq,Prod.mk.injEq]at H
      obtain⟨rfl,rfl⟩:=H
      go_wp2_with (first|((with_reducible refine gd_ 41 ?_);refine Kd.R_make Kd.bool _ 4 rfl (N:=41) rfl 136 _ _ rfl c rfl rfl Try.underlying136 (.bool false) 1 info4 rfl (by decide) (by omega) false (ok:=fun _=>True) (okp:=fun _=>True) rfl (fun _ hk=>hk) trivial (of_decide_eq_true qa_) (Nat.le_trans (Nat.mul_le_mul_right _ (of_decide_eq_true qa_:c.toNat≤281474976710656)) (by omega)) (Below.refl _ _) (Nat.le_refl _) ?_;intro c6 c7 ho30 hb hg_ hnew_;clear hg_ hnew_;(first|rw[←d.out]at ho30|(simp only[Int.reduceToNat]at ho30;rw[←d.out]at ho30));have i:=am_ (Kd.R_lower ho30 (below_size qB_));replace HB:=hs_ hb;clear hb ho30;obtain⟨a5,a6,c8⟩:=Kd.R_slice i.out;subst c8)|((with_reducible refine gc_ 136 ?_);refine gl_ (some 42) Try.func136 #[.int .i64 c,.slice T l1.length D,.int .i64 j,.int .i64 (-1),.slice a5 y.length a6] ?_;(with_reducible refine(spec_l06Walk.calls Y c _ _ l1 j (-1) (fun k_=>some k_=(.slice a5 y.length a6:Value).ownBlock) (.slice a5 y.length a6) y b5 false b6 w _ ?side1 ?side2 ?side3 ?side4 M.out).mono ?_);(case side1=>exact qB_);(case side2=>exact Kd.C_kept_came k43_heap U.out qB_ (fun k_ hs_=>(fun e_=>Kd.R_base i.out k_ e_.symm) hs_));(case side3=>exact a9.out);(case side4=>exact Kd.R_tight rfl i.out);rintro e c9 ⟨d0,rfl,ho0,u,hb,hkp⟩;refine⟨_,rfl,?_⟩;have O:=am_ (Kd.R_mono (ok' :=fun k_=>True) ho0 (fun k_ hk_=>trivial));replace i:=am_ (Kd.R_reok rfl u (fun k_ e_=>i.out.1 k_ e_));replace HB:=am_ (hb);clear hb hkp ho0 u))
      go_ret2
      exact⟨_,qr_,qR_ O,qB_⟩
     generalize v:(([]:List Int))=e4 at H;replace H:=bh_ H;have x:=am_ v.symm;clear v
     simp only[Option.some.injEq,Prod.mk.injEq]at H
     obtain⟨rfl,rfl⟩:=H
     go_wp2_with (first|((with_reducible refine gd_ 41 ?_);refine Kd.R_make Kd.bool _ 4 rfl (N:=41) rfl 136 _ _ rfl c rfl rfl Try.underlying136 (.bool false) 1 info4 rfl (by decide) (by omega) false (ok:=fun _=>True) (okp:=fun _=>True) rfl (fun _ hk=>hk) trivial (of_decide_eq_true qa_) (Nat.le_trans (Nat.mul_le_mul_right _ (of_decide_eq_true qa_:c.toNat≤281474976710656)) (by omega)) (Below.refl _ _) (Nat.le_refl _) ?_;intro c6 d1 ho24 hb hg_ hnew_;clear hg_ hnew_;(first|rw[←d.out]at ho24|(simp only[Int.reduceToNat]at ho24;rw[←d.out]at ho24));have i:=am_ (Kd.R_lower ho24 (below_size qB_));replace HB:=hs_ hb;clear hb ho24;obtain⟨a7,a8,d2⟩:=Kd.R_slice i.out;subst d2)|((with_reducible refine gc_ 136 ?_);refine gl_ (some 42) Try.func136 #[.int .i64 c,.slice T l1.length D,.int .i64 j,.int .i64 (-1),.slice a7 y.length a8] ?_;(with_reducible refine(spec_l06Walk.calls Y c _ _ l1 j (-1) (fun k_=>some k_=(.slice a7 y.length a8:Value).ownBlock) (.slice a7 y.length a8) y b5 true b6 w _ ?side1 ?side2 ?side3 ?side4 M.out).mono ?_);(case side1=>exact qB_);(case side2=>exact Kd.C_kept_came k43_heap U.out qB_ (fun k_ hs_=>(fun e_=>Kd.R_base i.out k_ e_.symm) hs_));(case side3=>exact a9.out);(case side4=>exact Kd.R_tight rfl i.out);rintro e d3 ⟨d0,rfl,ho0,u,hb,hkp⟩;refine⟨_,rfl,?_⟩;have O:=am_ (Kd.R_mono (ok' :=fun k_=>True) ho0 (fun k_ hk_=>trivial));replace i:=am_ (Kd.R_reok rfl u (fun k_ e_=>i.out.1 k_ e_));replace HB:=am_ (hb);clear hb hkp ho0 u)|((with_reducible refine gd_ 46 ?_);refine Kd.R_lit (Kd.int .i64) _ 3 ?hg (N:=46) ?hd (xs:=([]:List Int)) (inner:=[]) (ok:=fun _=>True) (okp:=fun _=>True) ?hr ?hp (fun _ hk=>hk) trivial (Below.refl _ _) (Nat.le_refl _) (by simp) ?_;(case hd=>rfl);(case hg=>rfl);(case hr=>first|(go_simp;done)|(go_simp;rfl));(case hp=>exact(Reps.none _ _));intro e5 d4 ho28 hb hg_ hnew_;clear hg_ hnew_;(first|rw[←x.out]at ho28|(simp only[Int.reduceToNat]at ho28;rw[←x.out]at ho28));have d5:=am_ (Kd.R_lower (Kd.R_new' ho28 (Kd.R_lt (qR_ O))) (below_size qB_));replace i:=kb_ i hb;replace O:=ke_ O ho28 hb;replace HB:=hs_ hb;clear hb ho28))
     go_ret2
     exact⟨_,qr_,by(with_reducible repeat(first|apply Kd.R_alloc|apply Kd.R_drewN|apply Kd.R_drew));exact Kd.R_mono d5.out (fun _ hk=>trivial),qB_⟩
end Go.Proofs.Ytbkklafkoegdpaa.QFnTakes

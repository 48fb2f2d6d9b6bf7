import Derived.Test.YtbkklafkoegdpaaQFnLevelsx27
namespace Go.Proofs.Ytbkklafkoegdpaa.QFnLevels
open Go.RowKit Go.Proofs.YtbkklafkoegdpaaW.PrintWords Go.Proofs.YtbkklafkoegdpaaW.PrintLast Go.Proofs.YtbkklafkoegdpaaW.PrintMore
set_option maxHeartbeats 8000000
set_option maxRecDepth 100000
set_option linter.unusedVariables false
set_option linter.unusedSimpArgs false
def impl_with.l0:Nat→List Int→Int→Int→Option (List Int)
  |0,_,_,_=>none
  |k + 1,x0,x1,x5=>if x5<(x0.length:Int) then (if 0≤x5 then (if (rd x0 x5)<x1 then (impl_with.l0 k x0 x1 (wrap64 (x5 + 1))) else (if (rd x0 x5)=x1 then (some x0) else (if x5≤(x0.length:Int) then ((impl_copyInts.f (x0.take (x5:Int).toNat)).bind fun t637=>((some (([x1]:List Int):List Int)).bind fun y640=>(if t637.length + y640.length<17592186044416 then ((some (t637++y640:List Int)).bind fun y643=>((some (x0.drop (x5:Int).toNat:List Int)).bind fun y646=>(if y643.length + y646.length<17592186044416 then (some (y643++y646)) else (none)))) else (none)))) else (none)))) else (none)) else (if 0≤x5 then (if x5≤(x0.length:Int) then ((impl_copyInts.f (x0.take (x5:Int).toNat)).bind fun t657=>((some (([x1]:List Int):List Int)).bind fun y660=>(if t657.length + y660.length<17592186044416 then ((some (t657++y660:List Int)).bind fun y663=>((some (x0.drop (x5:Int).toNat:List Int)).bind fun y666=>(if y663.length + y666.length<17592186044416 then (some (y663++y666)) else (none)))) else (none)))) else (none)) else (none))
def impl_with.f (k:Nat) (l0:List Int) (a1:Int):Option (List Int):=impl_with.l0 k l0 a1 0
def impl_with.T6:Bool × List (List Nat × List Nat):=(true,[([],[]),([],[]),([0,1],[0,1]),([2],[2]),([],[]),([4],[4]),([3,5,3],[3,5]),([],[]),([],[]),([7,8],[7,8]),([6,9,6],[6,9]),([10,10,0,1,2,3,4,5,6,7,8,9,10],[10])])
def impl_with.B6:List Nat:=[0,0,3,7,0,16,63,0,0,384,1023,2047]
theorem impl_with.tab6:rtab .any (opsOf Try.f133 6)=impl_with.T6:=by kernel_rfl
theorem impl_with.bits6:waitsOk impl_with.T6.2 impl_with.B6=true:=by kernel_rfl
theorem impl_with.calls (k:Nat) (d:Nat→Prop) (u9000_:Value) (l0:List Int) (p:Int) (r:List Int) (o w:World) (hB:Below o.heap.size o w) (ho0:Kd.R (Kd.int .i64) 3 w o.heap.size d u9000_ l0) (h:impl_with.f k l0 p=some r):
  Calls Try.prog 133 #[u9000_,.int .i64 p] w fun e w' =>∃ f8:Value,e= .returned (f8)∧Kd.R (Kd.int .i64) 3 w' o.heap.size (fun k_=>(d k_∨w.heap.size≤k_)) f8 r∧Below o.heap.size o w' ∧Kept w w' (fun k_=>d k_):=by
 have k9:=am_ (show Kd.R (Kd.int .i64) 3 w o.heap.size (fun k_=>(d k_∨w.heap.size≤k_)) u9000_ l0 from Kd.R_mono ho0 (fun k_ hk=>(.inl hk)))
 have HK:=am_ (Kept.refl w (fun k_=>d k_))
 have HW0:=am_ hB.size
 have HB:=am_ hB
 clear hB
 rw[impl_with.f]at h;have H:=h;clear h;have H' :=am_ H;clear H
 go_enter Try.func133,Try.ntmps133
 go_wp2
 go_loopg [5] k (fun kq v5 w' =>∃ (a:Int),v5= .int .i64 a∧Aside0 (impl_with.l0 kq l0 p a=some r)∧Aside0 (kq≤k)∧Aside0 (Kd.R (Kd.int .i64) 3 w' o.heap.size (fun k_=>(d k_∨w.heap.size≤k_)) u9000_ l0)∧Aside0 (Kept w w' (fun k_=>d k_))∧Aside0 (Below o.heap.size o w'))
 case atStart=>exact⟨(0),qe_,H',⟨Nat.le_refl _⟩,⟨ra_ k9⟩,⟨qK_⟩,⟨qB_⟩⟩
 case round=>
  clear H'
  (try clear n4)
  obtain⟨a,rfl,HA,HK1,l,HK,HB⟩:=hrel
  cases gk with
  |zero=>exact absurd HA.out (by simp [impl_with.l0])
  |succ l4=>
   have H:=HA.out;clear HA
   simp only[impl_with.l0]at H
   refine ib_ H ?_ ?_<;>clear H<;>intro j8 H
   ·refine jg_ H ?_;clear H;intro d2 H
    have h5:=eq_true d2
    have h6:=decide_eq_true d2
    clear d2
    refine jg_ H ?_;clear H;intro d3 H
    have h7:=eq_true d3
    have h8:=decide_eq_true d3
    clear d3
    generalize U:(l0.take (a:Int).toNat)=f4 at H;replace H:=bh_ H;have V:=am_ U.symm;clear U
    obtain⟨f5,f9,H⟩:=bs_ H
    generalize X:(([p]:List Int))=c8 at H;replace H:=bh_ H;have t:=am_ X.symm;clear X
    refine jg_ H ?_;clear H;intro g0 H
    have d4:=am_ g0
    clear g0
    generalize Y:(f5++c8)=j9 at H;replace H:=bh_ H;have d5:=am_ Y.symm;clear Y
    have h9:=eq_true (of_decide_eq_true qa_:0≤a)
    have i0:=eq_true (of_decide_eq_true qa_:a≤(l0.length:Int))
    generalize Z:(l0.drop (a:Int).toNat)=d6 at H;replace H:=bh_ H;have F:=am_ Z.symm;clear Z
    refine jg_ H ?_;clear H;intro g1 H
    have d7:=am_ g1
    clear g1
    generalize a0:(j9++d6)=n5 at H;replace H:=bh_ H;have d8:=am_ a0.symm;clear a0
    obtain rfl:=oi_ H
    obtain⟨v,q,l5⟩:=Kd.R_slice l.out
    subst l5
    try go_wp2
    replace l:=rd_ l;replace HK:=am_ (Kept.drew HK.out);replace HB:=hd_ HB
    have d9:(a:Int)≤((l0.length:Int):Int):=of_decide_eq_true qa_
    obtain⟨i036,hi036,_,hsz36,_⟩:=info_parts info3
    have hroom36:l0.length≤q:=(Kd.R_reads' l.out).2.1
    have hC36:Kd.C (Kd.int .i64) _ v l0.length l0:=(Kd.R_reads' l.out).2.2
    have hcut36:=cut_to (P:=Try.prog) 51 3 .i64 Try.underlying51 hi036 v l0.length q a (of_decide_eq_true qa_) d9 hroom36
    have hr36:=Kd.C_take (m:=(a:Int).toNat) hC36 (by omega)
    have a1:f4.length=(a:Int).toNat:=(by rw[V.out,List.length_take];omega)
    rw[←V.out]at hr36
    rw[←a1]at hcut36
    have x:=am_ hr36
    have k0:=am_ (show f4.length≤q from by omega)
    clear hr36 hC36 hroom36 hi036 hsz36
    have KY36:=am_ a1
    clear a1
    have KL36:=am_ (show(a:Int).toNat≤l0.length from by omega)
    replace d9:=eq_true d9
    have e0:(a:Int)≤((l0.length:Int):Int):=of_decide_eq_true qa_
    obtain⟨i037,hi037,_,hsz37,_⟩:=info_parts info3
    have hroom37:l0.length≤q:=(Kd.R_reads' l.out).2.1
    have hC37:Kd.C (Kd.int .i64) _ v l0.length l0:=(Kd.R_reads' l.out).2.2
    have g2:(0:Int)≤(a:Int):=of_decide_eq_true qa_
    have hcut37:=cut_from (P:=Try.prog) 51 3 .i64 Try.underlying51 hi037 1 hsz37 v l0.length q a g2 e0
    have hr37:=Kd.C_drop (m:=(a:Int).toNat) (c:=q) hC37 (by omega) hroom37
    obtain⟨i1,hA37⟩:∃ i2,i2=(if q=(a:Int).toNat then v else (v:Option Addr).map (·.add ((a:Int).toNat * 1))):=⟨_,rfl⟩
    obtain⟨i3,hc37⟩:∃ h0,h0=q - (a:Int).toNat:=⟨_,rfl⟩
    have J:d6.length=l0.length - (a:Int).toNat:=(by rw[F.out,List.length_drop]<;>omega)
    rw[show(l0).drop (a:Int).toNat=d6 from F.out.symm]at hr37
    replace hr37:Kd.C (Kd.int .i64) _ i1 d6.length d6:=(by rw[hA37];exact hr37)
    rw[←J,←hA37,←hc37]at hcut37
    have O:=am_ hr37
    have n6:=am_ (show d6.length≤i3 from by rw[J,hc37];exact Nat.sub_le_sub_right hroom37 _)
    clear hr37 hC37 hroom37 hi037 hsz37 hc37
    have KY37:=am_ J
    have KA37:=am_ hA37
    clear J hA37
    have KL37:=am_ (show(a:Int).toNat≤l0.length from by omega)
    replace e0:=eq_true e0
    refine start_ (n:=12) (S:=fun w' =>True) (ds:=[]) (bm 12 0) (by kernel_rfl) rfl (by kernel_rfl) trivial (fun hHeld=> ?_);refine with_tabW impl_with.tab6 impl_with.bits6 (fun HT_ HW_=> ?_)
    generalize wr.drew=l6 at l HK HB x O hHeld ⊢
    refine pz_ 0 33 12 1 ?_;refine pz_ 1 34 12 3 ?_;refine pz_ 2 35 12 7 ?_;refine pz_ 4 37 12 23 ?_;refine pz_ 7 40 12 151 ?_;refine pz_ 8 41 12 407 ?_;refine pz_ 9 42 12 919 ?_
    refine join_ (σ :=Value × Value) 3 #[true,true,true,true,true,true,false,true,true,true,false,false] (fun s_=>[(36,s_.1),(38,s_.2)]) (fun s_ w' =>(Kd.R (Kd.int .i64) 3 w' o.heap.size (fun k_=>(d k_∨w.heap.size≤k_)∧some k_≠(s_.2:Value).ownBlock∧some k_≠(.slice v l0.length q:Value).ownBlock) s_.1 f5)∧(Kd.R (Kd.int .i64) 3 w' o.heap.size (fun k_=>(d k_∨w.heap.size≤k_)∧some k_≠(s_.1:Value).ownBlock∧some k_≠(.slice v l0.length q:Value).ownBlock) s_.2 c8)∧(Kd.R (Kd.int .i64) 3 w' o.heap.size (fun k_=>(d k_∨w.heap.size≤k_)∧some k_≠(s_.1:Value).ownBlock∧some k_≠(s_.2:Value).ownBlock) (.slice v l0.length q) l0)∧(Kept w w' (fun k_=>d k_))∧(Below o.heap.size o w')) ?_ ?_
    rotate_left
    ·intro hCont
     refine two_ (i:=3) (j:=5) (Ni:=some 36) (Nj:=some 38) (bm 12 927) #[true,true,true,false,true,true,false,true,true,true,false,false] rfl rfl rfl rfl (two_of HT_.out (by kernel_rfl)) (by decide) (by decide) (fun K hK=> ?_) (fun K hK=> ?_)
     ·skip
      refine gs_ Try.func121 #[.slice v f4.length q] ?_
      with_reducible refine(impl_copyInts.calls _ _ f4 f5 _ ?side1 ?side2 f9.out).mono ?_
      (case side1=>repeat(first|exact(by repeat(first|(with_reducible exact x.out)|(with_reducible refine Kd.C_alloc ?_ _)|(with_reducible refine Kd.C_drewN ?_ _)|(with_reducible refine Kd.C_drew ?_)|exact x.out))|(with_reducible refine Kd.C_alloc ?_ _)|(with_reducible refine Kd.C_drewN ?_ _)|(with_reducible refine Kd.C_drew ?_)))
      (case side2=>exact k0.out)
      rintro e i4 ⟨c9,rfl,ho0,hb⟩
      refine⟨_,rfl,?_⟩
      have c6:=am_ (Kd.R_lower (Kd.R_new' (Kd.R_newM (M:=fun k_=>(d k_∨w.heap.size≤k_)) ho0 (by first|exact HK.out.1|exact(show Kept w _ (fun k_=>d k_) from qK_).1) (fun k_ h_=> .inr h_)) (Kd.R_lt (qR_ l))) (below_size qB_));replace l:=ke_ l ho0 hb;replace x:=am_ (Kd.C_below (by repeat(first|(with_reducible exact x.out)|(with_reducible refine Kd.C_alloc ?_ _)|(with_reducible refine Kd.C_drewN ?_ _)|(with_reducible refine Kd.C_drew ?_)|exact x.out)) hb);replace O:=am_ (Kd.C_below (by repeat(first|(with_reducible exact O.out)|(with_reducible refine Kd.C_alloc ?_ _)|(with_reducible refine Kd.C_drewN ?_ _)|(with_reducible refine Kd.C_drew ?_)|exact O.out)) hb);replace HK:=am_ (Kept.below (S:=(fun k_=>d k_)) (qK_) hb);replace HB:=hs_ hb;clear hb ho0
      refine hK.out _ _ trivial (fun hHeld=> ?_)
      clear hK K
      refine nm_ 36 ?_
      refine o1_ 5 (some 38) 12 959 (fun K hK=> ?_)
      refine Kd.R_lit_step (Kd.int .i64) _ 3 ?hg (N:=38) ?hd (xs:=([p]:List Int)) (inner:=[.int .i64 p]) (ok:=fun _=>True) (okp:=fun _=>True) ?hr ?hp (fun _ hk=>hk) trivial (Below.refl _ _) (Nat.le_refl _) (by simp) ?_;(case hd=>rfl);(case hg=>rfl);(case hr=>first|(go_simp;done)|(go_simp;rfl));(case hp=>exact(Reps.one (show Kd.M (Kd.int .i64) _ _ _ p [.int .i64 p] from rfl) (Reps.none _ _)))
      intro e1 l7 ho40 hb hg_ hnew_
      clear hg_ hnew_
      (first|rw[←t.out]at ho40|(simp only[Int.reduceToNat]at ho40;rw[←t.out]at ho40))
      have D:=am_ (Kd.R_lower (Kd.R_new' (Kd.R_new' (Kd.R_newM (M:=fun k_=>(d k_∨w.heap.size≤k_)) ho40 (by first|exact HK.out.1|exact(show Kept w _ (fun k_=>d k_) from qK_).1) (fun k_ h_=> .inr h_)) (Kd.R_lt (qR_ l))) (Kd.R_lt (qR_ c6))) (below_size qB_));replace l:=ke_ l ho40 hb;replace c6:=ke_ c6 ho40 hb;replace x:=am_ (Kd.C_below (by repeat(first|(with_reducible exact x.out)|(with_reducible refine Kd.C_alloc ?_ _)|(with_reducible refine Kd.C_drewN ?_ _)|(with_reducible refine Kd.C_drew ?_)|exact x.out)) hb);replace O:=am_ (Kd.C_below (by repeat(first|(with_reducible exact O.out)|(with_reducible refine Kd.C_alloc ?_ _)|(with_reducible refine Kd.C_drewN ?_ _)|(with_reducible refine Kd.C_drew ?_)|exact O.out)) hb);replace HK:=am_ (Kept.below (S:=(fun k_=>d k_)) (qK_) hb);replace HB:=hs_ hb;clear hb ho40
      refine hK.out _ _ trivial (fun hHeld=> ?_)
      clear hK K
      refine nm_ 38 ?_
      exact norm_ (by simp only[putAll,Act.put,sA_,sB_,sC_]) (hCont (c9,e1) _ ⟨(by(with_reducible repeat(first|apply Kd.R_alloc|apply Kd.R_drewN|apply Kd.R_drew));exact Kd.R_mono c6.out (fun _ hk=>⟨hk.1.1.1,⟨hk.2,hk.1.2⟩⟩)),(by(with_reducible repeat(first|apply Kd.R_alloc|apply Kd.R_drewN|apply Kd.R_drew));exact Kd.R_mono D.out (fun _ hk=>⟨hk.1.1.1,⟨hk.2,hk.1.2⟩⟩)),(by(with_reducible repeat(first|apply Kd.R_alloc|apply Kd.R_drewN|apply Kd.R_drew));exact Kd.R_mono l.out (fun _ hk=>⟨hk.1.1,⟨hk.1.2,hk.2⟩⟩)),(qK_),qB_⟩)
     skip
     refine Kd.R_lit_step (Kd.int .i64) _ 3 ?hg (N:=38) ?hd (xs:=([p]:List Int)) (inner:=[.int .i64 p]) (ok:=fun _=>True) (okp:=fun _=>True) ?hr ?hp (fun _ hk=>hk) trivial (Below.refl _ _) (Nat.le_refl _) (by simp) ?_;(case hd=>rfl);(case hg=>rfl);(case hr=>first|(go_simp;done)|(go_simp;rfl));(case hp=>exact(Reps.one (show Kd.M (Kd.int .i64) _ _ _ p [.int .i64 p] from rfl) (Reps.none _ _)))
     intro e1 i4 ho39 hb hg_ hnew_
     clear hg_ hnew_
     (first|rw[←t.out]at ho39|(simp only[Int.reduceToNat]at ho39;rw[←t.out]at ho39))
     have D:=am_ (Kd.R_lower (Kd.R_new' (Kd.R_newM (M:=fun k_=>(d k_∨w.heap.size≤k_)) ho39 (by first|exact HK.out.1|exact(show Kept w _ (fun k_=>d k_) from qK_).1) (fun k_ h_=> .inr h_)) (Kd.R_lt (qR_ l))) (below_size qB_));replace l:=ke_ l ho39 hb;replace x:=am_ (Kd.C_below (by repeat(first|(with_reducible exact x.out)|(with_reducible refine Kd.C_alloc ?_ _)|(with_reducible refine Kd.C_drewN ?_ _)|(with_reducible refine Kd.C_drew ?_)|exact x.out)) hb);replace O:=am_ (Kd.C_below (by repeat(first|(with_reducible exact O.out)|(with_reducible refine Kd.C_alloc ?_ _)|(with_reducible refine Kd.C_drewN ?_ _)|(with_reducible refine Kd.C_drew ?_)|exact O.out)) hb);replace HK:=am_ (Kept.below (S:=(fun k_=>d k_)) (qK_) hb);replace HB:=hs_ hb;clear hb ho39
     refine hK.out _ _ trivial (fun hHeld=> ?_)
     clear hK K
     refine nm_ 38 ?_
     refine o1_ 3 (some 36) 12 959 (fun K hK=> ?_)
     refine gs_ Try.func121 #[.slice v f4.length q] ?_
     with_reducible refine(impl_copyInts.calls _ _ f4 f5 _ ?side1 ?side2 f9.out).mono ?_
     (case side1=>repeat(first|exact(by repeat(first|(with_reducible exact x.out)|(with_reducible refine Kd.C_alloc ?_ _)|(with_reducible refine Kd.C_drewN ?_ _)|(with_reducible refine Kd.C_drew ?_)|exact x.out))|(with_reducible refine Kd.C_alloc ?_ _)|(with_reducible refine Kd.C_drewN ?_ _)|(with_reducible refine Kd.C_drew ?_)))
     (case side2=>exact k0.out)
     rintro e l8 ⟨c9,rfl,ho0,hb⟩
     refine⟨_,rfl,?_⟩
     have c6:=am_ (Kd.R_lower (Kd.R_new' (Kd.R_new' (Kd.R_newM (M:=fun k_=>(d k_∨w.heap.size≤k_)) ho0 (by first|exact HK.out.1|exact(show Kept w _ (fun k_=>d k_) from qK_).1) (fun k_ h_=> .inr h_)) (Kd.R_lt (qR_ l))) (Kd.R_lt (qR_ D))) (below_size qB_));replace l:=ke_ l ho0 hb;replace D:=ke_ D ho0 hb;replace x:=am_ (Kd.C_below (by repeat(first|(with_reducible exact x.out)|(with_reducible refine Kd.C_alloc ?_ _)|(with_reducible refine Kd.C_drewN ?_ _)|(with_reducible refine Kd.C_drew ?_)|exact x.out)) hb);replace O:=am_ (Kd.C_below (by repeat(first|(with_reducible exact O.out)|(with_reducible refine Kd.C_alloc ?_ _)|(with_reducible refine Kd.C_drewN ?_ _)|(with_reducible refine Kd.C_drew ?_)|exact O.out)) hb);replace HK:=am_ (Kept.below (S:=(fun k_=>d k_)) (qK_) hb);replace HB:=hs_ hb;clear hb ho0
     refine hK.out _ _ trivial (fun hHeld=> ?_)
     clear hK K
     refine nm_ 36 ?_
     exact norm_ (by simp only[putAll,Act.put,sA_,sB_,sC_]) (hCont (c9,e1) _ ⟨(by(with_reducible repeat(first|apply Kd.R_alloc|apply Kd.R_drewN|apply Kd.R_drew));exact Kd.R_mono c6.out (fun _ hk=>⟨hk.1.1.1,⟨hk.2,hk.1.2⟩⟩)),(by(with_reducible repeat(first|apply Kd.R_alloc|apply Kd.R_drewN|apply Kd.R_drew));exact Kd.R_mono D.out (fun _ hk=>⟨hk.1.1.1,⟨hk.2,hk.1.2⟩⟩)),(by(with_reducible repeat(first|apply Kd.R_alloc|apply Kd.R_drewN|apply Kd.R_drew));exact Kd.R_mono l.out (fun _ hk=>⟨hk.1.1,⟨hk.2,hk.1.2⟩⟩)),(qK_),qB_⟩)
    rintro⟨c9,e1⟩ a2 ⟨a3,a4,a5,a6,a7⟩
    have a8:Aside0 (Kd.R (Kd.int .i64) 3 a2 o.heap.size (fun k_=>(d k_∨w.heap.size≤k_)∧some k_≠(e1:Value).ownBlock∧some k_≠(.slice v l0.length q:Value).ownBlock) c9 f5):=⟨a3⟩
    have a9:Aside0 (Kd.R (Kd.int .i64) 3 a2 o.heap.size (fun k_=>(d k_∨w.heap.size≤k_)∧some k_≠(c9:Value).ownBlock∧some k_≠(.slice v l0.length q:Value).ownBlock) e1 c8):=⟨a4⟩
    have b0:Aside0 (Kd.R (Kd.int .i64) 3 a2 o.heap.size (fun k_=>(d k_∨w.heap.size≤k_)∧some k_≠(c9:Value).ownBlock∧some k_≠(e1:Value).ownBlock) (.slice v l0.length q) l0):=⟨a5⟩
    have b1:Aside0 (Kept w a2 (fun k_=>d k_)):=⟨a6⟩
    have b2:Aside0 (Below o.heap.size o a2):=⟨a7⟩
    clear l HK HB a3 a4 a5 a6 a7;have c6:=a8;have D:=a9;have l:=b0;have HK:=b1;have HB:=b2;clear a8 a9 b0 b1 b2;have hHeld:=trivial
    obtain⟨h1,h2,k1⟩:=Kd.R_slice D.out
    (first|subst k1|(injection k1 with b3 e2 b4;have e3:=b3.symm;have e4:=b4.symm;clear b3 e2 b4;subst e3;subst e4))
    refine norm_ (a' := ?_) ?_ ?_
    rotate_left
    ·simp only[putAll,Act.put,sA_,sB_,sC_]
     rfl
    refine o1_ 6 (some 39) 12 1023 (fun K hK=> ?_)
    refine Kd.R_append_rows_step (Kd.int .i64) (w0:=o) o.heap.size (by rfl) (.tmp 36) (.tmp 38) 51 3 (.int .i64 0) 8 rfl Try.underlying51 info3 rfl (by decide) (by omega) c9 f5 c8 _ _ _ (fun k_=>(d k_∨w.heap.size≤k_)∧some k_≠(.slice v l0.length q:Value).ownBlock∧some k_≠(.slice h1 c8.length h2:Value).ownBlock) (fun _=>False) rfl rfl ?aO ?aR (fun _ _ h=>h) (fun _ h=>h.elim) ?aF ?aB ?aS ?aL ?_
    (case aR=>repeat(first|exact(Kd.R_reads' D.out).2.2|(with_reducible refine Kd.C_alloc ?_ _)|(with_reducible refine Kd.C_drewN ?_ _)|(with_reducible refine Kd.C_drew ?_)))
    (case aB=>exact qB_)
    (case aF=>exact(fun k_ hk=>⟨(.inr (Nat.le_trans (by first|exact HK.out.1|exact(show Kept w _ (fun k_=>d k_) from qK_).1) hk)),Kd.fresh' (Kd.R_lt (qR_ l)) k_ hk,Kd.fresh' (Kd.R_lt (qR_ D)) k_ hk⟩))
    (case aO=>exact(by(with_reducible repeat(first|apply Kd.R_alloc|apply Kd.R_drewN|apply Kd.R_drew));exact Kd.R_mono c6.out (fun _ hk=>⟨hk.1,⟨hk.2.2,hk.2.1⟩⟩)))
    (case aS=>exact(below_size qB_))
    (case aL=>have:=d4.out;omega)
    intro l9 m0 ho hb hg hat
    rw[←d5.out]at ho
    refine dn5_ (am_ (Kd.R_after (ok:=(fun k_=>(d k_∨w.heap.size≤k_)∧some k_≠(.slice h1 c8.length h2:Value).ownBlock)) (by(with_reducible repeat(first|apply Kd.R_alloc|apply Kd.R_drewN|apply Kd.R_drew));exact Kd.R_mono l.out (fun _ hk=>⟨⟨hk.1,hk.2.2⟩,hk.2.1⟩)) hg hat)) (am_ (Kd.R_after (ok:=(fun k_=>(d k_∨w.heap.size≤k_)∧some k_≠(.slice v l0.length q:Value).ownBlock)) (by(with_reducible repeat(first|apply Kd.R_alloc|apply Kd.R_drewN|apply Kd.R_drew));exact Kd.R_mono D.out (fun _ hk=>⟨⟨hk.1,hk.2.2⟩,hk.2.1⟩)) hg hat)) (am_ (hb)) (am_ (Kept.of_grown (S:=(fun k_=>d k_)) hg (qK_) (fun k_ e_=>(c6.out.1 k_ e_).1))) (am_ (ho)) ?_;clear l D HB HK c6;intro l D HB HK i5;clear ho hb hg hat
    refine hK.out _ _ trivial (fun hHeld=> ?_)
    clear hK K
    refine nm_ 39 ?_
    refine o1_ 10 (some 43) 12 2047 (fun K hK=> ?_)
    refine Kd.R_append_rows_step (Kd.int .i64) (w0:=o) o.heap.size (by rfl) (.tmp 39) (.tmp 42) 51 3 (.int .i64 0) 8 rfl Try.underlying51 info3 rfl (by decide) (by omega) l9 j9 d6 _ _ _ (fun k_=>(d k_∨w.heap.size≤k_)∧some k_≠(.slice v l0.length q:Value).ownBlock∧some k_≠(.slice h1 c8.length h2:Value).ownBlock) (fun _=>False) rfl rfl ?aO ?aR (fun _ _ h=>h) (fun _ h=>h.elim) ?aF ?aB ?aS ?aL ?_
    (case aR=>rw[F.out,KA37.out];exact Kd.C_drop (m:=(a:Int).toNat) (c:=q) ((Kd.R_reads' l.out).2.2) KL37.out ((Kd.R_reads' l.out).2.1))
    (case aB=>exact qB_)
    (case aF=>exact(fun k_ hk=>⟨(.inr (Nat.le_trans (by first|exact HK.out.1|exact(show Kept w _ (fun k_=>d k_) from qK_).1) hk)),Kd.fresh' (Kd.R_lt (qR_ l)) k_ hk,Kd.fresh' (Kd.R_lt (qR_ D)) k_ hk⟩))
    (case aO=>exact(qR_ i5))
    (case aS=>exact(below_size qB_))
    (case aL=>have:=d7.out;omega)
    intro n7 m1 ho hb hg hat
    rw[←d8.out]at ho
    have m2:=am_ (ho);replace l:=am_ (Kd.R_after (ok:=(fun k_=>(d k_∨w.heap.size≤k_)∧some k_≠(.slice h1 c8.length h2:Value).ownBlock)) (qR_ l) hg hat);replace D:=am_ (Kd.R_after (ok:=(fun k_=>(d k_∨w.heap.size≤k_)∧some k_≠(.slice v l0.length q:Value).ownBlock)) (qR_ D) hg hat);replace HK:=am_ (Kept.of_grown (S:=(fun k_=>d k_)) hg (qK_) (fun k_ e_=>(i5.out.1 k_ e_).1));replace HB:=am_ (hb);clear i5 ho hb hg hat
    refine hK.out _ _ trivial (fun hHeld=> ?_)
    clear hK K
    refine nm_ 43 ?_
    refine pz_ 11 4 12 4095 ?_
    refine done_ (done_of HT_.out (by kernel_rfl)) ?_
    try go_wp2
    go_ret
    exact⟨_,qr_,by(with_reducible repeat(first|apply Kd.R_alloc|apply Kd.R_drewN|apply Kd.R_drew));exact Kd.R_mono m2.out (fun _ hk=>hk.1),qB_,qK_⟩
   refine ig_ H ?_;clear H;intro k2 H
   refine ic_ H ?_ ?_<;>clear H<;>intro k3 H
   ·have H' :=am_ H;clear H
    obtain⟨n8,n9,m3⟩:=Kd.R_slice l.out
    subst m3
    have y:=dt_ a
    have z:=du_ a l0.length
    obtain⟨g,A,k4⟩:=Kd.at_int (Kd.R_reads' l.out).2.2 a (ot_ y) (ot_ z)
    cases A
    go_wp2
    go_roundg l4
    case measure=>have:=HK1.out;omega
    case rel=>exact⟨(wrap64 (a + 1)),qe_,H',⟨by have:=HK1.out;omega⟩,⟨ra_ l⟩,⟨qK_⟩,⟨qB_⟩⟩
   refine jc_ H ?_ ?_<;>clear H<;>intro g3 H
   ·have g4:((rd l0 a)==p)=true:=beq_iff_eq.mpr g3
    have g5:((rd l0 a) != p)=false:=bne_eq_false_iff_eq.mpr g3
    clear g3
    obtain rfl:=oi_ H
    obtain⟨o0,o1,m4⟩:=Kd.R_slice l.out
    subst m4
    have y:=dt_ a
    have z:=du_ a l0.length
    obtain⟨g,A,k4⟩:=Kd.at_int (Kd.R_reads' l.out).2.2 a (ot_ y) (ot_ z)
    cases A
    have b5:=dt_ a
    have b6:=du_ a l0.length
    obtain⟨G,b7,m5⟩:=Kd.at_int (Kd.R_reads' l.out).2.2 a (ot_ b5) (ot_ b6)
    obtain rfl:g=G:=(by injection b7)
    go_wp2
    go_ret
    exact⟨_,qr_,qR_ l,qB_,qK_⟩
   have g4:((rd l0 a)==p)=false:=beq_eq_false_iff_ne.mpr g3
   have g5:((rd l0 a) != p)=true:=bne_iff_ne.mpr g3
   have k5:=eq_true (of_decide_eq_true qa_:0≤a)
   refine jg_ H ?_;clear H;intro e5 H
   have i6:=eq_true e5
   have i7:=decide_eq_true e5
   clear e5
   generalize b8:(l0.take (a:Int).toNat)=f6 at H;replace H:=bh_ H;have b9:=am_ b8.symm;clear b8
   obtain⟨f7,g6,H⟩:=bs_ H
   generalize c0:(([p]:List Int))=d0 at H;replace H:=bh_ H;have u:=am_ c0.symm;clear c0
   refine jg_ H ?_;clear H;intro g7 H
   have e6:=am_ g7
   clear g7
   generalize c1:(f7++d0)=k6 at H;replace H:=bh_ H;have e7:=am_ c1.symm;clear c1
   have i8:=eq_true (of_decide_eq_true qa_:0≤a)
   have i9:=eq_true (of_decide_eq_true qa_:a≤(l0.length:Int))
   generalize c2:(l0.drop (a:Int).toNat)=e8 at H;replace H:=bh_ H;have I:=am_ c2.symm;clear c2
   refine jg_ H ?_;clear H;intro g8 H
   have e9:=am_ g8
   clear g8
   generalize c3:(k6++e8)=o2 at H;replace H:=bh_ H;have f0:=am_ c3.symm;clear c3
   obtain rfl:=oi_ H
   obtain⟨o3,s,m6⟩:=Kd.R_slice l.out
   subst m6
   have y:=dt_ a
   have z:=du_ a l0.length
   obtain⟨g,A,k4⟩:=Kd.at_int (Kd.R_reads' l.out).2.2 a (ot_ y) (ot_ z)
   cases A
   have b5:=dt_ a
   have b6:=du_ a l0.length
   obtain⟨G,b7,m5⟩:=Kd.at_int (Kd.R_reads' l.out).2.2 a (ot_ b5) (ot_ b6)
   obtain rfl:g=G:=(by injection b7)
   try go_wp2
   replace l:=rd_ l;replace HK:=am_ (Kept.drew HK.out);replace HB:=hd_ HB
   have f1:(a:Int)≤((l0.length:Int):Int):=of_decide_eq_true qa_
   obtain⟨i018,hi018,_,hsz18,_⟩:=info_parts info3
   have hroom18:l0.length≤s:=(Kd.R_reads' l.out).2.1
   have hC18:Kd.C (Kd.int .i64) _ (some g) l0.length l0:=(Kd.R_reads' l.out).2.2
   have hcut18:=cut_to (P:=Try.prog) 51 3 .i64 Try.underlying51 hi018 (some g) l0.length s a (of_decide_eq_true qa_) f1 hroom18
   have hr18:=Kd.C_take (m:=(a:Int).toNat) hC18 (by omega)
   have c4:f6.length=(a:Int).toNat:=(by rw[b9.out,List.length_take];omega)
   rw[←b9.out]at hr18
   rw[←c4]at hcut18
   have B:=am_ hr18
   have k7:=am_ (show f6.length≤s from by omega)
   clear hr18 hC18 hroom18 hi018 hsz18
   have KY18:=am_ c4
   clear c4
   have KL18:=am_ (show(a:Int).toNat≤l0.length from by omega)
   replace f1:=eq_true f1
   have f2:(a:Int)≤((l0.length:Int):Int):=of_decide_eq_true qa_
   obtain⟨i019,hi019,_,hsz19,_⟩:=info_parts info3
   have hroom19:l0.length≤s:=(Kd.R_reads' l.out).2.1
   have hC19:Kd.C (Kd.int .i64) _ (some g) l0.length l0:=(Kd.R_reads' l.out).2.2
   have g9:(0:Int)≤(a:Int):=of_decide_eq_true qa_
   have hcut19:=cut_from (P:=Try.prog) 51 3 .i64 Try.underlying51 hi019 1 hsz19 (some g) l0.length s a g9 f2
   have hr19:=Kd.C_drop (m:=(a:Int).toNat) (c:=s) hC19 (by omega) hroom19
   obtain⟨j3,hA19⟩:∃ i2,i2=(if s=(a:Int).toNat then (some g) else ((some g):Option Addr).map (·.add ((a:Int).toNat * 1))):=⟨_,rfl⟩
   obtain⟨j5,hc19⟩:∃ h0,h0=s - (a:Int).toNat:=⟨_,rfl⟩
   have L:e8.length=l0.length - (a:Int).toNat:=(by rw[I.out,List.length_drop]<;>omega)
   rw[show(l0).drop (a:Int).toNat=e8 from I.out.symm]at hr19
   replace hr19:Kd.C (Kd.int .i64) _ j3 e8.length e8:=(by rw[hA19];exact hr19)
   rw[←L,←hA19,←hc19]at hcut19
   have T:=am_ hr19
   have o4:=am_ (show e8.length≤j5 from by rw[L,hc19];exact Nat.sub_le_sub_right hroom19 _)
   clear hr19 hC19 hroom19 hi019 hsz19 hc19
   have KY19:=am_ L
   have KA19:=am_ hA19
   clear L hA19
   have KL19:=am_ (show(a:Int).toNat≤l0.length from by omega)
   replace f2:=eq_true f2
   refine start_ (n:=12) (S:=fun w' =>True) (ds:=[]) (bm 12 0) (by kernel_rfl) rfl (by kernel_rfl) trivial (fun hHeld=> ?_);refine with_tabW impl_with.tab6 impl_with.bits6 (fun HT_ HW_=> ?_)
   generalize wr.drew=m7 at l HK HB B T hHeld ⊢
   refine pz_ 0 33 12 1 ?_;refine pz_ 1 34 12 3 ?_;refine pz_ 2 35 12 7 ?_;refine pz_ 4 37 12 23 ?_;refine pz_ 7 40 12 151 ?_;refine pz_ 8 41 12 407 ?_;refine pz_ 9 42 12 919 ?_
   refine join_ (σ :=Value × Value) 3 #[true,true,true,true,true,true,false,true,true,true,false,false] (fun s_=>[(36,s_.1),(38,s_.2)]) (fun s_ w' =>(Kd.R (Kd.int .i64) 3 w' o.heap.size (fun k_=>(d k_∨w.heap.size≤k_)∧some k_≠(s_.2:Value).ownBlock∧some k_≠(.slice (some g) l0.length s:Value).ownBlock) s_.1 f7)∧(Kd.R (Kd.int .i64) 3 w' o.heap.size (fun k_=>(d k_∨w.heap.size≤k_)∧some k_≠(s_.1:Value).ownBlock∧some k_≠(.slice (some g) l0.length s:Value).ownBlock) s_.2 d0)∧(Kd.R (Kd.int .i64) 3 w' o.heap.size (fun k_=>(d k_∨w.heap.size≤k_)∧some k_≠(s_.1:Value).ownBlock∧some k_≠(s_.2:Value).ownBlock) (.slice (some g) l0.length s) l0)∧(Kept w w' (fun k_=>d k_))∧(Below o.heap.size o w')) ?_ ?_
   rotate_left
   ·intro hCont
    refine two_ (i:=3) (j:=5) (Ni:=some 36) (Nj:=some 38) (bm 12 927) #[true,true,true,false,true,true,false,true,true,true,false,false] rfl rfl rfl rfl (two_of HT_.out (by kernel_rfl)) (by decide) (by decide) (fun K hK=> ?_) (fun K hK=> ?_)
    ·skip
     refine gs_ Try.func121 #[.slice (some g) f6.length s] ?_
     with_reducible refine(impl_copyInts.calls _ _ f6 f7 _ ?side1 ?side2 g6.out).mono ?_
     (case side1=>repeat(first|exact(by repeat(first|(with_reducible exact B.out)|(with_reducible refine Kd.C_alloc ?_ _)|(with_reducible refine Kd.C_drewN ?_ _)|(with_reducible refine Kd.C_drew ?_)|exact B.out))|(with_reducible refine Kd.C_alloc ?_ _)|(with_reducible refine Kd.C_drewN ?_ _)|(with_reducible refine Kd.C_drew ?_)))
     (case side2=>exact k7.out)
     rintro e j6 ⟨d1,rfl,ho0,hb⟩
     refine⟨_,rfl,?_⟩
     have c7:=am_ (Kd.R_lower (Kd.R_new' (Kd.R_newM (M:=fun k_=>(d k_∨w.heap.size≤k_)) ho0 (by first|exact HK.out.1|exact(show Kept w _ (fun k_=>d k_) from qK_).1) (fun k_ h_=> .inr h_)) (Kd.R_lt (qR_ l))) (below_size qB_));replace l:=ke_ l ho0 hb;replace B:=am_ (Kd.C_below (by repeat(first|(with_reducible exact B.out)|(with_reducible refine Kd.C_alloc ?_ _)|(with_reducible refine Kd.C_drewN ?_ _)|(with_reducible refine Kd.C_drew ?_)|exact B.out)) hb);replace T:=am_ (Kd.C_below (by repeat(first|(with_reducible exact T.out)|(with_reducible refine Kd.C_alloc ?_ _)|(with_reducible refine Kd.C_drewN ?_ _)|(with_reducible refine Kd.C_drew ?_)|exact T.out)) hb);replace HK:=am_ (Kept.below (S:=(fun k_=>d k_)) (qK_) hb);replace HB:=hs_ hb;clear hb ho0
     refine hK.out _ _ trivial (fun hHeld=> ?_)
     clear hK K
     refine nm_ 36 ?_
     refine o1_ 5 (some 38) 12 959 (fun K hK=> ?_)
     refine Kd.R_lit_step (Kd.int .i64) _ 3 ?hg (N:=38) ?hd (xs:=([p]:List Int)) (inner:=[.int .i64 p]) (ok:=fun _=>True) (okp:=fun _=>True) ?hr ?hp (fun _ hk=>hk) trivial (Below.refl _ _) (Nat.le_refl _) (by simp) ?_;(case hd=>rfl);(case hg=>rfl);(case hr=>first|(go_simp;done)|(go_simp;rfl));(case hp=>exact(Reps.one (show Kd.M (Kd.int .i64) _ _ _ p [.int .i64 p] from rfl) (Reps.none _ _)))
     intro f3 m8 ho22 hb hg_ hnew_
     clear hg_ hnew_
     (first|rw[←u.out]at ho22|(simp only[Int.reduceToNat]at ho22;rw[←u.out]at ho22))
     have E:=am_ (Kd.R_lower (Kd.R_new' (Kd.R_new' (Kd.R_newM (M:=fun k_=>(d k_∨w.heap.size≤k_)) ho22 (by first|exact HK.out.1|exact(show Kept w _ (fun k_=>d k_) from qK_).1) (fun k_ h_=> .inr h_)) (Kd.R_lt (qR_ l))) (Kd.R_lt (qR_ c7))) (below_size qB_));replace l:=ke_ l ho22 hb;replace c7:=ke_ c7 ho22 hb;replace B:=am_ (Kd.C_below (by repeat(first|(with_reducible exact B.out)|(with_reducible refine Kd.C_alloc ?_ _)|(with_reducible refine Kd.C_drewN ?_ _)|(with_reducible refine Kd.C_drew ?_)|exact B.out)) hb);replace T:=am_ (Kd.C_below (by repeat(first|(with_reducible exact T.out)|(with_reducible refine Kd.C_alloc ?_ _)|(with_reducible refine Kd.C_drewN ?_ _)|(with_reducible refine Kd.C_drew ?_)|exact T.out)) hb);replace HK:=am_ (Kept.below (S:=(fun k_=>d k_)) (qK_) hb);replace HB:=hs_ hb;clear hb ho22
     refine hK.out _ _ trivial (fun hHeld=> ?_)
     clear hK K
     refine nm_ 38 ?_
     exact norm_ (by simp only[putAll,Act.put,sA_,sB_,sC_]) (hCont (d1,f3) _ ⟨(by(with_reducible repeat(first|apply Kd.R_alloc|apply Kd.R_drewN|apply Kd.R_drew));exact Kd.R_mono c7.out (fun _ hk=>⟨hk.1.1.1,⟨hk.2,hk.1.2⟩⟩)),(by(with_reducible repeat(first|apply Kd.R_alloc|apply Kd.R_drewN|apply Kd.R_drew));exact Kd.R_mono E.out (fun _ hk=>⟨hk.1.1.1,⟨hk.2,hk.1.2⟩⟩)),(by(with_reducible repeat(first|apply Kd.R_alloc|apply Kd.R_drewN|apply Kd.R_drew));exact Kd.R_mono l.out (fun _ hk=>⟨hk.1.1,⟨hk.1.2,hk.2⟩⟩)),(qK_),qB_⟩)
    skip
    refine Kd.R_lit_step (Kd.int .i64) _ 3 ?hg (N:=38) ?hd (xs:=([p]:List Int)) (inner:=[.int .i64 p]) (ok:=fun _=>True) (okp:=fun _=>True) ?hr ?hp (fun _ hk=>hk) trivial (Below.refl _ _) (Nat.le_refl _) (by simp) ?_;(case hd=>rfl);(case hg=>rfl);(case hr=>first|(go_simp;done)|(go_simp;rfl));(case hp=>exact(Reps.one (show Kd.M (Kd.int .i64) _ _ _ p [.int .i64 p] from rfl) (Reps.none _ _)))
    intro f3 j6 ho21 hb hg_ hnew_
    clear hg_ hnew_
    (first|rw[←u.out]at ho21|(simp only[Int.reduceToNat]at ho21;rw[←u.out]at ho21))
    have E:=am_ (Kd.R_lower (Kd.R_new' (Kd.R_newM (M:=fun k_=>(d k_∨w.heap.size≤k_)) ho21 (by first|exact HK.out.1|exact(show Kept w _ (fun k_=>d k_) from qK_).1) (fun k_ h_=> .inr h_)) (Kd.R_lt (qR_ l))) (below_size qB_));replace l:=ke_ l ho21 hb;replace B:=am_ (Kd.C_below (by repeat(first|(with_reducible exact B.out)|(with_reducible refine Kd.C_alloc ?_ _)|(with_reducible refine Kd.C_drewN ?_ _)|(with_reducible refine Kd.C_drew ?_)|exact B.out)) hb);replace T:=am_ (Kd.C_below (by repeat(first|(with_reducible exact T.out)|(with_reducible refine Kd.C_alloc ?_ _)|(with_reducible refine Kd.C_drewN ?_ _)|(with_reducible refine Kd.C_drew ?_)|exact T.out)) hb);replace HK:=am_ (Kept.below (S:=(fun k_=>d k_)) (qK_) hb);replace HB:=hs_ hb;clear hb ho21
    refine hK.out _ _ trivial (fun hHeld=> ?_)
    clear hK K
    refine nm_ 38 ?_
    refine o1_ 3 (some 36) 12 959 (fun K hK=> ?_)
    refine gs_ Try.func121 #[.slice (some g) f6.length s] ?_
    with_reducible refine(impl_copyInts.calls _ _ f6 f7 _ ?side1 ?side2 g6.out).mono ?_
    (case side1=>repeat(first|exact(by repeat(first|(with_reducible exact B.out)|(with_reducible refine Kd.C_alloc ?_ _)|(with_reducible refine Kd.C_drewN ?_ _)|(with_reducible refine Kd.C_drew ?_)|exact B.out))|(with_reducible refine Kd.C_alloc ?_ _)|(with_reducible refine Kd.C_drewN ?_ _)|(with_reducible refine Kd.C_drew ?_)))
    (case side2=>exact k7.out)
    rintro e m9 ⟨d1,rfl,ho0,hb⟩
    refine⟨_,rfl,?_⟩
    have c7:=am_ (Kd.R_lower (Kd.R_new' (Kd.R_new' (Kd.R_newM (M:=fun k_=>(d k_∨w.heap.size≤k_)) ho0 (by first|exact HK.out.1|exact(show Kept w _ (fun k_=>d k_) from qK_).1) (fun k_ h_=> .inr h_)) (Kd.R_lt (qR_ l))) (Kd.R_lt (qR_ E))) (below_size qB_));replace l:=ke_ l ho0 hb;replace E:=ke_ E ho0 hb;replace B:=am_ (Kd.C_below (by repeat(first|(with_reducible exact B.out)|(with_reducible refine Kd.C_alloc ?_ _)|(with_reducible refine Kd.C_drewN ?_ _)|(with_reducible refine Kd.C_drew ?_)|exact B.out)) hb);replace T:=am_ (Kd.C_below (by repeat(first|(with_reducible exact T.out)|(with_reducible refine Kd.C_alloc ?_ _)|(with_reducible refine Kd.C_drewN ?_ _)|(with_reducible refine Kd.C_drew ?_)|exact T.out)) hb);replace HK:=am_ (Kept.below (S:=(fun k_=>d k_)) (qK_) hb);replace HB:=hs_ hb;clear hb ho0
    refine hK.out _ _ trivial (fun hHeld=> ?_)
    clear hK K
    refine nm_ 36 ?_
    exact norm_ (by simp only[putAll,Act.put,sA_,sB_,sC_]) (hCont (d1,f3) _ ⟨(by(with_reducible repeat(first|apply Kd.R_alloc|apply Kd.R_drewN|apply Kd.R_drew));exact Kd.R_mono c7.out (fun _ hk=>⟨hk.1.1.1,⟨hk.2,hk.1.2⟩⟩)),(by(with_reducible repeat(first|apply Kd.R_alloc|apply Kd.R_drewN|apply Kd.R_drew));exact Kd.R_mono E.out (fun _ hk=>⟨hk.1.1.1,⟨hk.2,hk.1.2⟩⟩)),(by(with_reducible repeat(first|apply Kd.R_alloc|apply Kd.R_drewN|apply Kd.R_drew));exact Kd.R_mono l.out (fun _ hk=>⟨hk.1.1,⟨hk.2,hk.1.2⟩⟩)),(qK_),qB_⟩)
   rintro⟨d1,f3⟩ c5 ⟨a3,a4,a5,a6,a7⟩
   have a8:Aside0 (Kd.R (Kd.int .i64) 3 c5 o.heap.size (fun k_=>(d k_∨w.heap.size≤k_)∧some k_≠(f3:Value).ownBlock∧some k_≠(.slice (some g) l0.length s:Value).ownBlock) d1 f7):=⟨a3⟩
   have a9:Aside0 (Kd.R (Kd.int .i64) 3 c5 o.heap.size (fun k_=>(d k_∨w.heap.size≤k_)∧some k_≠(d1:Value).ownBlock∧some k_≠(.slice (some g) l0.length s:Value).ownBlock) f3 d0):=⟨a4⟩
   have b0:Aside0 (Kd.R (Kd.int .i64) 3 c5 o.heap.size (fun k_=>(d k_∨w.heap.size≤k_)∧some k_≠(d1:Value).ownBlock∧some k_≠(f3:Value).ownBlock) (.slice (some g) l0.length s) l0):=⟨a5⟩
   have b1:Aside0 (Kept w c5 (fun k_=>d k_)):=⟨a6⟩
   have b2:Aside0 (Below o.heap.size o c5):=⟨a7⟩
   clear l HK HB a3 a4 a5 a6 a7;have c7:=a8;have E:=a9;have l:=b0;have HK:=b1;have HB:=b2;clear a8 a9 b0 b1 b2;have hHeld:=trivial
   obtain⟨h3,h4,k8⟩:=Kd.R_slice E.out
   (first|subst k8|(injection k8 with b3 e2 b4;have e3:=b3.symm;have e4:=b4.symm;clear b3 e2 b4;subst e3;subst e4))
   refine norm_ (a' := ?_) ?_ ?_
   rotate_left
   ·simp only[putAll,Act.put,sA_,sB_,sC_]
    rfl
   refine o1_ 6 (some 39) 12 1023 (fun K hK=> ?_)
   refine Kd.R_append_rows_step (Kd.int .i64) (w0:=o) o.heap.size (by rfl) (.tmp 36) (.tmp 38) 51 3 (.int .i64 0) 8 rfl Try.underlying51 info3 rfl (by decide) (by omega) d1 f7 d0 _ _ _ (fun k_=>(d k_∨w.heap.size≤k_)∧some k_≠(.slice (some g) l0.length s:Value).ownBlock∧some k_≠(.slice h3 d0.length h4:Value).ownBlock) (fun _=>False) rfl rfl ?aO ?aR (fun _ _ h=>h) (fun _ h=>h.elim) ?aF ?aB ?aS ?aL ?_
   (case aR=>repeat(first|exact(Kd.R_reads' E.out).2.2|(with_reducible refine Kd.C_alloc ?_ _)|(with_reducible refine Kd.C_drewN ?_ _)|(with_reducible refine Kd.C_drew ?_)))
   (case aB=>exact qB_)
   (case aF=>exact(fun k_ hk=>⟨(.inr (Nat.le_trans (by first|exact HK.out.1|exact(show Kept w _ (fun k_=>d k_) from qK_).1) hk)),Kd.fresh' (Kd.R_lt (qR_ l)) k_ hk,Kd.fresh' (Kd.R_lt (qR_ E)) k_ hk⟩))
   (case aO=>exact(by(with_reducible repeat(first|apply Kd.R_alloc|apply Kd.R_drewN|apply Kd.R_drew));exact Kd.R_mono c7.out (fun _ hk=>⟨hk.1,⟨hk.2.2,hk.2.1⟩⟩)))
   (case aS=>exact(below_size qB_))
   (case aL=>have:=e6.out;omega)
   intro n0 n1 ho hb hg hat
   rw[←e7.out]at ho
   refine dn5_ (am_ (Kd.R_after (ok:=(fun k_=>(d k_∨w.heap.size≤k_)∧some k_≠(.slice h3 d0.length h4:Value).ownBlock)) (by(with_reducible repeat(first|apply Kd.R_alloc|apply Kd.R_drewN|apply Kd.R_drew));exact Kd.R_mono l.out (fun _ hk=>⟨⟨hk.1,hk.2.2⟩,hk.2.1⟩)) hg hat)) (am_ (Kd.R_after (ok:=(fun k_=>(d k_∨w.heap.size≤k_)∧some k_≠(.slice (some g) l0.length s:Value).ownBlock)) (by(with_reducible repeat(first|apply Kd.R_alloc|apply Kd.R_drewN|apply Kd.R_drew));exact Kd.R_mono E.out (fun _ hk=>⟨⟨hk.1,hk.2.2⟩,hk.2.1⟩)) hg hat)) (am_ (hb)) (am_ (Kept.of_grown (S:=(fun k_=>d k_)) hg (qK_) (fun k_ e_=>(c7.out.1 k_ e_).1))) (am_ (ho)) ?_;clear l E HB HK c7;intro l E HB HK j7;clear ho hb hg hat
   refine hK.out _ _ trivial (fun hHeld=> ?_)
   clear hK K
   refine nm_ 39 ?_
   refine o1_ 10 (some 43) 12 2047 (fun K hK=> ?_)
   refine Kd.R_append_rows_step (Kd.int .i64) (w0:=o) o.heap.size (by rfl) (.tmp 39) (.tmp 42) 51 3 (.int .i64 0) 8 rfl Try.underlying51 info3 rfl (by decide) (by omega) n0 k6 e8 _ _ _ (fun k_=>(d k_∨w.heap.size≤k_)∧some k_≠(.slice (some g) l0.length s:Value).ownBlock∧some k_≠(.slice h3 d0.length h4:Value).ownBlock) (fun _=>False) rfl rfl ?aO ?aR (fun _ _ h=>h) (fun _ h=>h.elim) ?aF ?aB ?aS ?aL ?_
   (case aR=>rw[I.out,KA19.out];exact Kd.C_drop (m:=(a:Int).toNat) (c:=s) ((Kd.R_reads' l.out).2.2) KL19.out ((Kd.R_reads' l.out).2.1))
   (case aB=>exact qB_)
   (case aF=>exact(fun k_ hk=>⟨(.inr (Nat.le_trans (by first|exact HK.out.1|exact(show Kept w _ (fun k_=>d k_) from qK_).1) hk)),Kd.fresh' (Kd.R_lt (qR_ l)) k_ hk,Kd.fresh' (Kd.R_lt (qR_ E)) k_ hk⟩))
   (case aO=>exact(qR_ j7))
   (case aS=>exact(below_size qB_))
   (case aL=>have:=e9.out;omega)
   intro o5 n2 ho hb hg hat
   rw[←f0.out]at ho
   have n3:=am_ (ho);replace l:=am_ (Kd.R_after (ok:=(fun k_=>(d k_∨w.heap.size≤k_)∧some k_≠(.slice h3 d0.length h4:Value).ownBlock)) (qR_ l) hg hat);replace E:=am_ (Kd.R_after (ok:=(fun k_=>(d k_∨w.heap.size≤k_)∧some k_≠(.slice (some g) l0.length s:Value).ownBlock)) (qR_ E) hg hat);replace HK:=am_ (Kept.of_grown (S:=(fun k_=>d k_)) hg (qK_) (fun k_ e_=>(j7.out.1 k_ e_).1));replace HB:=am_ (hb);clear j7 ho hb hg hat
   refine hK.out _ _ trivial (fun hHeld=> ?_)
   clear hK K
   refine nm_ 43 ?_
   refine pz_ 11 4 12 4095 ?_
   refine done_ (done_of HT_.out (by kernel_rfl)) ?_
   try go_wp2
   go_ret
   exact⟨_,qr_,by(with_reducible repeat(first|apply Kd.R_alloc|apply Kd.R_drewN|apply Kd.R_drew));exact Kd.R_mono n3.out (fun _ hk=>hk.1),qB_,qK_⟩
end Go.Proofs.Ytbkklafkoegdpaa.QFnLevels

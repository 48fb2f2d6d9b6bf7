import Derived.Test.YtbkklafkoegdpaaQFnTakesx16
import Derived.Test.YtbkklafkoegdpaaQFnTakesx24
import Derived.Test.YtbkklafkoegdpaaQFnTakesx25
namespace Go.Proofs.Ytbkklafkoegdpaa.QFnTakes
open Go.RowKit Go.Proofs.YtbkklafkoegdpaaW.PrintWords Go.Proofs.YtbkklafkoegdpaaW.PrintLast Go.Proofs.YtbkklafkoegdpaaW.PrintMore
set_option maxHeartbeats 8000000
set_option maxRecDepth 100000
set_option linter.unusedVariables false
set_option linter.unusedSimpArgs false
def spec_WebAdd.j0:Nat→Bool→Int→List (S72)→Int→Int→Option (Int × (List (S72)) × Bool)
  |0,_,_,_,_,_=>none
  |k + 1,x24,x593000,x593001,x594000,x594001=>if x24=true then (some (0,([]:List (S72)),false)) else ((spec_ForestAt.f k x593000 x593001 0).bind fun bt606=>((spec_TreeOf.f k bt606.1 bt606.2.1 x594000).bind fun t612=>((spec_TreeOf.f k bt606.1 bt606.2.1 x594001).bind fun t613=>((spec_l08Put.f k x593001 x594000 x594001 0 (t612 != t613)).bind fun t615=>(some (x593000,t615,true))))))
def spec_WebAdd.f (k:Nat) (a0_0:Int) (l0_1:List (S72)) (a1_0:Int) (a1_1:Int):Option (Int × (List (S72)) × Bool):=(spec_GraphOf.f k a0_0 l0_1).bind fun bt595=>((spec_AddEdge.f k bt595.1 bt595.2 a1_0 a1_1).bind fun bt599=>((spec_WebOk.f k a0_0 l0_1).bind fun t605=>(if t605=true then (spec_WebAdd.j0 k (!bt599.2.2) a0_0 l0_1 a1_0 a1_1) else (spec_WebAdd.j0 k true a0_0 l0_1 a1_0 a1_1))))
def spec_WebAdd.T1:Bool × List (List Nat × List Nat):=(true,[([],[]),([0],[0]),([],[]),([1,2,1],[1,2]),([3],[3]),([4],[4]),([4],[4]),([],[]),([7,5,3,0,1,2,3,4,5,7],[5,7]),([6,8,0,1,2,3,4,5,6,7,8],[6])])
def spec_WebAdd.B1:List Nat:=[0,1,0,7,15,31,31,0,191,511]
theorem spec_WebAdd.tab1:rtab .any (opsOf Try.f38 1)=spec_WebAdd.T1:=by kernel_rfl
theorem spec_WebAdd.bits1:waitsOk spec_WebAdd.T1.2 spec_WebAdd.B1=true:=by kernel_rfl
def spec_WebAdd.T5:Bool × List (List Nat × List Nat):=(true,[([],[]),([0],[0]),([],[]),([2],[2]),([],[]),([],[]),([5],[5]),([4,6],[4,6]),([],[]),([],[]),([9],[9]),([8,10,7],[8,10]),([7,11],[7,11]),([1,3,12],[1,3,12]),([],[]),([14,13,11,0,1,2,3,4,5,6,7,8,9,10,11,12,13,14],[13,14])])
def spec_WebAdd.B5:List Nat:=[0,1,0,4,0,0,32,112,0,0,512,2032,4080,8191,0,32767]
theorem spec_WebAdd.tab5:rtab .any (opsOf Try.f38 5)=spec_WebAdd.T5:=by kernel_rfl
theorem spec_WebAdd.bits5:waitsOk spec_WebAdd.T5.2 spec_WebAdd.B5=true:=by kernel_rfl
def spec_WebAdd.T6:Bool × List (List Nat × List Nat):=(true,[([],[]),([0],[0]),([],[]),([2],[2]),([],[]),([3,4],[3,4]),([1,5],[1,5]),([6,5,0,1,2,3,4,5,6],[6]),([7,0,1,2,3,4,5,6,7],[])])
def spec_WebAdd.B6:List Nat:=[0,1,0,4,0,28,63,127,255]
theorem spec_WebAdd.tab6:rtab .any (opsOf Try.f38 6)=spec_WebAdd.T6:=by kernel_rfl
theorem spec_WebAdd.bits6:waitsOk spec_WebAdd.T6.2 spec_WebAdd.B6=true:=by kernel_rfl
theorem spec_WebAdd.calls (k:Nat) (q:Int) (x:Option Addr) (y:Nat) (m:List (S72)) (c:Int) (a:Int) (h0:Int) (h1:List (S72)) (h2:Bool) (w:World) (hr0_1:Kd.C k72 w x m.length m) (hc0_1:m.length≤y) (h:spec_WebAdd.f k q m c a=some (h0,h1,h2)):
  Calls Try.prog 38 #[.agg #[.int .i64 q,.slice x m.length y],.agg #[.int .i64 c,.int .i64 a]] w fun e w' =>∃ g0:Value,e= .returned (.tuple #[.agg #[.int .i64 h0,g0],.bool h2])∧Kd.R k72 72 w' w.heap.size (fun _=>True) g0 h1∧Below w.heap.size w w' :=by
 have hu29:=Try.underlying29;have hu43:=Try.underlying43;have hu69:=Try.underlying69;have hu39:=Try.underlying39;have hu72:=Try.underlying72
 have V:=am_ hr0_1
 have X:=am_ hc0_1
 clear hr0_1 hc0_1
 have HB:=am_ (Below.refl w.heap.size w)
 have H:((spec_GraphOf.f k q m).bind fun k1=>((spec_AddEdge.f k k1.1 k1.2 c a).bind fun m3=>((spec_WebOk.f k q m).bind fun k2=>(if k2=true then (spec_WebAdd.j0 k (!m3.2.2) q m c a) else (spec_WebAdd.j0 k true q m c a)))))=some (h0,h1,h2):=h
 clear h
 obtain⟨⟨e9,c7⟩,k3,H⟩:=bs_ H;dsimp only at H
 obtain⟨⟨c1,a9,f4⟩,h4,H⟩:=bs_ H;dsimp only at H
 have h5:=am_ H
 clear H
 go_enter Try.func38,Try.ntmps38
 try go_wp2_with (first|((with_reducible refine gd_ 2 ?_);refine by_ 2 (cs:= #[.int .i64 q,.slice x m.length y]) (t:=29) ?_;intro b0 hg p2 l hb;have p3:=gw_ hg;replace HB:=hs_ hb;clear hb hg)|((with_reducible refine gd_ 3 ?_);refine by_ 3 (cs:= #[.int .i64 c,.int .i64 a]) (t:=43) ?_;intro I hg p4 d hb;have p5:=gw_ hg;obtain⟨h6,p6⟩:=qn_ l hg;replace l:=qbl_ l hb;replace HB:=hs_ hb;clear hb hg)|((with_reducible refine gd_ 4 ?_);refine by_ 4 (cs:= #[.int .i64 0,.slice none 0 0]) (t:=29) ?_;intro L hg m4 u hb;have p7:=gw_ hg;obtain⟨f0,h7⟩:=qn_ l hg;obtain⟨k4,h8⟩:=qn_ d hg;replace l:=qbl_ l hb;replace d:=qbl_ d hb;replace HB:=hs_ hb;clear hb hg))
 replace l:=bd_ l;replace d:=bd_ d;replace u:=bd_ u;replace HB:=hd_ HB
 refine start_ (n:=10) (S:=fun w' =>w'.cell? ⟨b0,0,none⟩=some (.int .i64 q)∧w'.cell? ⟨b0,1,none⟩=some (.slice x m.length y)∧w'.cell? ⟨I,0,none⟩=some (.int .i64 c)∧w'.cell? ⟨I,1,none⟩=some (.int .i64 a)) (ds:=[]) (bm 10 0) (by kernel_rfl) rfl (by kernel_rfl) ⟨bl_ l 0,bl_ l 1,bl_ d 0,bl_ d 1⟩ (fun hHeld=> ?_);refine with_tabW spec_WebAdd.tab1 spec_WebAdd.bits1 (fun HT_ HW_=> ?_)
 generalize m4.drew=p8 at l d u HB hHeld ⊢
 refine tz4_ 0 12 10 1 ?_;refine tz4_ 2 14 10 5 ?_
 refine join_ (σ :=Value × Value × Nat) 2 #[true,true,true,true,true,true,true,true,false,false] (fun s_=>[(13,.agg #[.int .i64 e9,s_.1]),(15,.tuple #[.agg #[.int .i64 c1,s_.2.1],.bool f4]),(6,.pointer (some ⟨s_.2.2,0,none⟩)),(11,.tuple #[.agg #[.int .i64 c1,s_.2.1],.bool f4]),(16,.agg #[.int .i64 c1,s_.2.1]),(17,.bool f4)]) (fun s_ w' =>(w'.cell? ⟨b0,0,none⟩=some (.int .i64 q)∧w'.cell? ⟨b0,1,none⟩=some (.slice x m.length y)∧w'.cell? ⟨I,0,none⟩=some (.int .i64 c)∧w'.cell? ⟨I,1,none⟩=some (.int .i64 a))∧(Kd.R k43 43 w' w.heap.size (fun k_=>some k_≠(s_.2.1:Value).ownBlock∧k_≠I) s_.1 c7)∧(Kd.R k43 43 w' w.heap.size (fun k_=>some k_≠(s_.1:Value).ownBlock∧k_≠I) s_.2.1 a9)∧(w'.heap[b0]? =some (.cells #[.int .i64 q,.slice x m.length y] 29 (0,0)))∧(w'.heap[I]? =some (.cells #[.int .i64 c,.int .i64 a] 43 (0,0)))∧(w'.heap[L]? =some (.cells #[.int .i64 0,.slice none 0 0] 29 (0,0)))∧(w'.heap[s_.2.2]? =some (.cells #[.int .i64 0,.slice none 0 0] 69 (0,0)))∧(w.heap.size≤s_.2.2)∧(w.heap.size≤s_.2.2)∧(b0≠s_.2.2)∧(s_.2.2≠b0)∧(I≠s_.2.2)∧(s_.2.2≠I)∧(L≠s_.2.2)∧(s_.2.2≠L)∧(Below w.heap.size w w')) ?_ ?_
 rotate_left
 ·intro hCont
  refine two_ (i:=1) (j:=7) (Ni:=some 13) (Nj:=some 6) (bm 10 7) #[true,false,true,false,false,false,false,true,false,false] rfl rfl rfl rfl (two_of HT_.out (by kernel_rfl)) (by decide) (by decide) (fun K hK=> ?_) (fun K hK=> ?_)
  ·skip
   refine gs_ Try.func47 #[.agg #[.int .i64 q,.slice x m.length y]] ?_
   with_reducible refine(spec_GraphOf.calls k q _ _ m e9 c7 _ ?side1 ?side2 k3.out).mono ?_
   (case side1=>exact qC_ V HB)
   (case side2=>exact X.out)
   rintro e h9 ⟨h3,rfl,ho0,hb⟩
   refine⟨_,rfl,?_⟩
   have M:=am_ (Kd.R_lower (Kd.R_newB ho0 (qk_ d)) (below_size qB_));replace l:=qbl_ l hb;replace d:=qbl_ d hb;replace u:=qbl_ u hb;replace HB:=hs_ hb;clear hb;(try clear hb2);clear ho0
   obtain⟨k5,j1,j2⟩:=Kd.R_slice M.out
   (first|subst j2|(injection j2 with O b4 T;have b5:=O.symm;have b6:=T.symm;clear O b4 T;subst b5;subst b6))
   refine hK.out _ _ ⟨bl_ l 0,bl_ l 1,bl_ d 0,bl_ d 1⟩ (fun hHeld=> ?_)
   clear hK K
   refine nm_ 13 ?_
   refine two_ (i:=3) (j:=7) (Ni:=some 15) (Nj:=some 6) (bm 10 15) #[true,true,true,false,false,false,false,true,false,false] rfl rfl rfl rfl (two_of HT_.out (by kernel_rfl)) (by decide) (by decide) (fun K hK=> ?_) (fun K hK=> ?_)
   ·skip
    refine gs_ Try.func87 #[.agg #[.int .i64 e9,.slice k5 c7.length j1],.agg #[.int .i64 c,.int .i64 a]] ?_
    with_reducible refine(spec_AddEdge.calls k e9 _ _ c7 c a c1 a9 f4 _ ?side1 ?side2 h4.out).mono ?_
    (case side1=>exact qD_ (Kd.R_reads' M.out).2.2)
    (case side2=>exact(Kd.R_reads' M.out).2.1)
    rintro e m5 ⟨f1,rfl,ho0,hb⟩
    refine⟨_,rfl,?_⟩
    have c4:=am_ (Kd.R_lower (Kd.R_newB (Kd.R_new' ho0 (Kd.R_lt (qR_ M))) (qk_ d)) (below_size qB_));replace M:=ke_ M ho0 hb;replace l:=qbl_ l hb;replace d:=qbl_ d hb;replace u:=qbl_ u hb;replace HB:=hs_ hb;clear hb ho0
    refine hK.out _ _ ⟨bl_ l 0,bl_ l 1,bl_ d 0,bl_ d 1⟩ (fun hHeld=> ?_)
    clear hK K
    refine nm_ 15 ?_
    refine pz_ 4 11 10 31 ?_;refine pz_ 5 16 10 63 ?_;refine pz_ 6 17 10 127 ?_
    refine o1_ 7 (some 6) 10 255 (fun K hK=> ?_)
    refine box_step ?hg (N:=6) ?hd (cs:= #[.int .i64 0,.slice none 0 0]) (t:=69) ?hr ?_;(case hd=>rfl);(case hg=>rfl);(case hr=>first|(go_simp;done)|(go_simp;rfl))
    intro D hg g1 hbox hb
    have v:=am_ (hbox);have f6:=gw_ hg;have f7:=gw_ hg;have c5:=(qn_ l hg).1;have f2:=(qn_ l hg).2;have c8:=(qn_ d hg).1;have f3:=(qn_ d hg).2;have d0:=(qn_ u hg).1;have e2:=(qn_ u hg).2;replace M:=kb_ M hb;replace c4:=kb_ c4 hb;replace l:=qbl_ l hb;replace d:=qbl_ d hb;replace u:=qbl_ u hb;replace HB:=hs_ hb;clear hb hbox hg
    refine hK.out _ _ ⟨bl_ l 0,bl_ l 1,bl_ d 0,bl_ d 1⟩ (fun hHeld=> ?_)
    clear hK K
    refine nm_ 6 ?_
    exact norm_ (by simp only[putAll,Act.put,sA_,sB_,sC_]) (hCont (.slice k5 c7.length j1,f1,D) _ ⟨hHeld,(by(with_reducible repeat(first|apply Kd.R_alloc|apply Kd.R_drewN|apply Kd.R_drew));exact Kd.R_mono M.out (fun _ hk=>⟨hk.2,hk.1.2⟩)),(by(with_reducible repeat(first|apply Kd.R_alloc|apply Kd.R_drewN|apply Kd.R_drew));exact Kd.R_mono c4.out (fun _ hk=>⟨hk.1.2,hk.2⟩)),(qk_ l),(qk_ d),(qk_ u),(qk_ v),f6.out,f7.out,c5.out,f2.out,c8.out,f3.out,d0.out,e2.out,qB_⟩)
   skip
   refine box_step ?hg (N:=6) ?hd (cs:= #[.int .i64 0,.slice none 0 0]) (t:=69) ?hr ?_;(case hd=>rfl);(case hg=>rfl);(case hr=>first|(go_simp;done)|(go_simp;rfl))
   intro D hg i0 hbox hb
   have v:=am_ (hbox);have f6:=gw_ hg;have f7:=gw_ hg;have c5:=(qn_ l hg).1;have f2:=(qn_ l hg).2;have c8:=(qn_ d hg).1;have f3:=(qn_ d hg).2;have d0:=(qn_ u hg).1;have e2:=(qn_ u hg).2;replace M:=kb_ M hb;replace l:=qbl_ l hb;replace d:=qbl_ d hb;replace u:=qbl_ u hb;replace HB:=hs_ hb;clear hb hbox hg
   obtain⟨g2,g3,g4⟩:=Kd.R_slice M.out
   (first|subst g4|(injection g4 with O b4 T;have b5:=O.symm;have b6:=T.symm;clear O b4 T;subst b5;subst b6))
   refine hK.out _ _ ⟨bl_ l 0,bl_ l 1,bl_ d 0,bl_ d 1⟩ (fun hHeld=> ?_)
   clear hK K
   refine nm_ 6 ?_
   refine o1_ 3 (some 15) 10 143 (fun K hK=> ?_)
   refine gs_ Try.func87 #[.agg #[.int .i64 e9,.slice g2 c7.length g3],.agg #[.int .i64 c,.int .i64 a]] ?_
   with_reducible refine(spec_AddEdge.calls k e9 _ _ c7 c a c1 a9 f4 _ ?side1 ?side2 h4.out).mono ?_
   (case side1=>exact qD_ (Kd.R_reads' M.out).2.2)
   (case side2=>exact(Kd.R_reads' M.out).2.1)
   rintro e g1 ⟨f1,rfl,ho0,hb⟩
   refine⟨_,rfl,?_⟩
   have c4:=am_ (Kd.R_lower (Kd.R_newB (Kd.R_new' ho0 (Kd.R_lt (qR_ M))) (qk_ d)) (below_size qB_));replace M:=ke_ M ho0 hb;replace l:=qbl_ l hb;replace d:=qbl_ d hb;replace u:=qbl_ u hb;replace v:=qbl_ v hb;replace HB:=hs_ hb;clear hb ho0
   refine hK.out _ _ ⟨bl_ l 0,bl_ l 1,bl_ d 0,bl_ d 1⟩ (fun hHeld=> ?_)
   clear hK K
   refine nm_ 15 ?_
   refine pz_ 4 11 10 159 ?_;refine pz_ 5 16 10 191 ?_;refine pz_ 6 17 10 255 ?_
   exact norm_ (by simp only[putAll,Act.put,sA_,sB_,sC_]) (hCont (.slice g2 c7.length g3,f1,D) _ ⟨hHeld,(by(with_reducible repeat(first|apply Kd.R_alloc|apply Kd.R_drewN|apply Kd.R_drew));exact Kd.R_mono M.out (fun _ hk=>⟨hk.2,hk.1.2⟩)),(by(with_reducible repeat(first|apply Kd.R_alloc|apply Kd.R_drewN|apply Kd.R_drew));exact Kd.R_mono c4.out (fun _ hk=>⟨hk.1.2,hk.2⟩)),(qk_ l),(qk_ d),(qk_ u),(qk_ v),f6.out,f7.out,c5.out,f2.out,c8.out,f3.out,d0.out,e2.out,qB_⟩)
  skip
  refine box_step ?hg (N:=6) ?hd (cs:= #[.int .i64 0,.slice none 0 0]) (t:=69) ?hr ?_;(case hd=>rfl);(case hg=>rfl);(case hr=>first|(go_simp;done)|(go_simp;rfl))
  intro D hg h9 hbox hb
  have v:=am_ (hbox);have f6:=gw_ hg;have f7:=gw_ hg;have c5:=(qn_ l hg).1;have f2:=(qn_ l hg).2;have c8:=(qn_ d hg).1;have f3:=(qn_ d hg).2;have d0:=(qn_ u hg).1;have e2:=(qn_ u hg).2;replace l:=qbl_ l hb;replace d:=qbl_ d hb;replace u:=qbl_ u hb;replace HB:=hs_ hb;clear hb hbox hg
  refine hK.out _ _ ⟨bl_ l 0,bl_ l 1,bl_ d 0,bl_ d 1⟩ (fun hHeld=> ?_)
  clear hK K
  refine nm_ 6 ?_
  refine o1_ 1 (some 13) 10 135 (fun K hK=> ?_)
  refine gs_ Try.func47 #[.agg #[.int .i64 q,.slice x m.length y]] ?_
  with_reducible refine(spec_GraphOf.calls k q _ _ m e9 c7 _ ?side1 ?side2 k3.out).mono ?_
  (case side1=>exact qC_ V HB)
  (case side2=>exact X.out)
  rintro e i0 ⟨h3,rfl,ho0,hb⟩
  refine⟨_,rfl,?_⟩
  have M:=am_ (Kd.R_lower (Kd.R_newB ho0 (qk_ d)) (below_size qB_));replace l:=qbl_ l hb;replace d:=qbl_ d hb;replace u:=qbl_ u hb;replace v:=qbl_ v hb;replace HB:=hs_ hb;clear hb ho0
  obtain⟨g2,g3,g4⟩:=Kd.R_slice M.out
  (first|subst g4|(injection g4 with O b4 T;have b5:=O.symm;have b6:=T.symm;clear O b4 T;subst b5;subst b6))
  refine hK.out _ _ ⟨bl_ l 0,bl_ l 1,bl_ d 0,bl_ d 1⟩ (fun hHeld=> ?_)
  clear hK K
  refine nm_ 13 ?_
  refine o1_ 3 (some 15) 10 143 (fun K hK=> ?_)
  refine gs_ Try.func87 #[.agg #[.int .i64 e9,.slice g2 c7.length g3],.agg #[.int .i64 c,.int .i64 a]] ?_
  with_reducible refine(spec_AddEdge.calls k e9 _ _ c7 c a c1 a9 f4 _ ?side1 ?side2 h4.out).mono ?_
  (case side1=>exact qD_ (Kd.R_reads' M.out).2.2)
  (case side2=>exact(Kd.R_reads' M.out).2.1)
  rintro e g1 ⟨f1,rfl,ho0,hb⟩
  refine⟨_,rfl,?_⟩
  have c4:=am_ (Kd.R_lower (Kd.R_newB (Kd.R_new' ho0 (Kd.R_lt (qR_ M))) (qk_ d)) (below_size qB_));replace M:=ke_ M ho0 hb;replace l:=qbl_ l hb;replace d:=qbl_ d hb;replace u:=qbl_ u hb;replace v:=qbl_ v hb;replace HB:=hs_ hb;clear hb ho0
  refine hK.out _ _ ⟨bl_ l 0,bl_ l 1,bl_ d 0,bl_ d 1⟩ (fun hHeld=> ?_)
  clear hK K
  refine nm_ 15 ?_
  refine pz_ 4 11 10 159 ?_;refine pz_ 5 16 10 191 ?_;refine pz_ 6 17 10 255 ?_
  exact norm_ (by simp only[putAll,Act.put,sA_,sB_,sC_]) (hCont (.slice g2 c7.length g3,f1,D) _ ⟨hHeld,(by(with_reducible repeat(first|apply Kd.R_alloc|apply Kd.R_drewN|apply Kd.R_drew));exact Kd.R_mono M.out (fun _ hk=>⟨hk.2,hk.1.2⟩)),(by(with_reducible repeat(first|apply Kd.R_alloc|apply Kd.R_drewN|apply Kd.R_drew));exact Kd.R_mono c4.out (fun _ hk=>⟨hk.1.2,hk.2⟩)),(qk_ l),(qk_ d),(qk_ u),(qk_ v),f6.out,f7.out,c5.out,f2.out,c8.out,f3.out,d0.out,e2.out,qB_⟩)
 rintro⟨h3,f1,D⟩ Y ⟨hS_,d1,d2,d3,d4,d5,d6,d7,d8,d9,e0,h10_,h11_,h12_,h13_,h14_⟩
 have Z:Aside0 (Kd.R k43 43 Y w.heap.size (fun k_=>some k_≠(f1:Value).ownBlock∧k_≠I) h3 c7):=⟨d1⟩
 have a0:Aside0 (Kd.R k43 43 Y w.heap.size (fun k_=>some k_≠(h3:Value).ownBlock∧k_≠I) f1 a9):=⟨d2⟩
 have a1:Aside0 (Y.heap[b0]? =some (.cells #[.int .i64 q,.slice x m.length y] 29 (0,0))):=⟨d3⟩
 have a2:Aside0 (Y.heap[I]? =some (.cells #[.int .i64 c,.int .i64 a] 43 (0,0))):=⟨d4⟩
 have a3:Aside0 (Y.heap[L]? =some (.cells #[.int .i64 0,.slice none 0 0] 29 (0,0))):=⟨d5⟩
 have a4:Aside0 (Y.heap[D]? =some (.cells #[.int .i64 0,.slice none 0 0] 69 (0,0))):=⟨d6⟩
 have a5:Aside0 (w.heap.size≤D):=⟨d7⟩
 have a6:Aside0 (w.heap.size≤D):=⟨d8⟩
 have b7:Aside0 (b0≠D):=⟨d9⟩
 have e1:Aside0 (D≠b0):=⟨e0⟩
 have n10_:Aside0 (I≠D):=⟨h10_⟩
 have n11_:Aside0 (D≠I):=⟨h11_⟩
 have n12_:Aside0 (L≠D):=⟨h12_⟩
 have n13_:Aside0 (D≠L):=⟨h13_⟩
 have n14_:Aside0 (Below w.heap.size w Y):=⟨h14_⟩
 clear l d u HB d1 d2 d3 d4 d5 d6 d7 d8 d9 e0 h10_ h11_ h12_ h13_ h14_;have M:=Z;have c4:=a0;have l:=a1;have d:=a2;have u:=a3;have v:=a4;have f6:=a5;have f7:=a6;have c5:=b7;have f2:=e1;have c8:=n10_;have f3:=n11_;have d0:=n12_;have e2:=n13_;have HB:=n14_;clear Z a0 a1 a2 a3 a4 a5 a6 b7 e1 n10_ n11_ n12_ n13_ n14_
 have hHeld:Y.cell? ⟨b0,0,none⟩=some (.int .i64 q)∧Y.cell? ⟨b0,1,none⟩=some (.slice x m.length y)∧Y.cell? ⟨I,0,none⟩=some (.int .i64 c)∧Y.cell? ⟨I,1,none⟩=some (.int .i64 a):=hS_
 obtain⟨c2,c3,j3⟩:=Kd.R_slice c4.out
 (first|subst j3|(injection j3 with O b4 T;have b5:=O.symm;have b6:=T.symm;clear O b4 T;subst b5;subst b6))
 refine norm_ (a' := ?_) ?_ ?_
 rotate_left
 ·simp only[putAll,Act.put,sA_,sB_,sC_]
  rfl
 refine o1_ 8 none 10 511 (fun K hK=> ?_)
 have k6:Y.cell? ⟨D,0,none⟩=some (.int .i64 0):=bl_ v 0
 have i1:=blk_frozen v.out 0
 have p9:=c5.out;have q0:=c8.out;have q1:=d0.out;have q2:=f2.out;have q3:=f3.out;have q4:=e2.out
 have k7:Y.cell? ⟨D,1,none⟩=some (.slice none 0 0):=bl_ v 1
 have i2:=blk_frozen v.out 1
 have q5:=c5.out;have l0:=c8.out;have l1:=d0.out;have l2:=f2.out;have l3:=f3.out;have q6:=e2.out
 refine skip_ (w1:= ?_) (by rfl) rfl ?_ ?_
 rotate_left
 ·go_simp
  rfl
 refine hK.out _ _ ⟨((cell_far (p:=⟨D,_,none⟩) c5.out _).trans (((cell_far (p:=⟨D,_,none⟩) c5.out _).trans (hHeld.1)))),((cell_far (p:=⟨D,_,none⟩) c5.out _).trans (((cell_far (p:=⟨D,_,none⟩) c5.out _).trans (hHeld.2.1)))),((cell_far (p:=⟨D,_,none⟩) c8.out _).trans (((cell_far (p:=⟨D,_,none⟩) c8.out _).trans (hHeld.2.2.1)))),((cell_far (p:=⟨D,_,none⟩) c8.out _).trans (((cell_far (p:=⟨D,_,none⟩) c8.out _).trans (hHeld.2.2.2))))⟩ (fun hHeld=> ?_)
 clear hK K;refine pz_ 9 7 10 1023 ?_
 refine done_ (done_of HT_.out (by kernel_rfl)) ?_
 go_upto_region 2 with (fail)
 go_cut [24] (fun v24 wc=>∃ (kq:Nat) (c6:Bool),v24= .bool c6∧Aside0 (spec_WebAdd.j0 kq c6 q m c a=some (h0,h1,h2))∧Aside0 (kq≤k)∧Aside0 (Kd.R k43 43 wc w.heap.size (fun k_=>k_≠I) (.slice c2 a9.length c3) a9)∧Aside0 (wc.heap[b0]? =some (.cells #[.int .i64 q,(.slice x m.length y)] 29 (0,0)))∧Aside0 (wc.heap[I]? =some (.cells #[.int .i64 c,.int .i64 a] 43 (0,0)))∧Aside0 (wc.heap[L]? =some (.cells #[.int .i64 0,(.slice none 0 0)] 29 (0,0)))∧Aside0 (wc.heap[D]? =some (.cells #[.int .i64 c1,(.slice c2 a9.length c3)] 69 (0,0)))∧Aside0 (Below w.heap.size w wc))
 case first=>
  have H:=h5.out;clear h5
  obtain⟨k2,g5,H⟩:=bs_ H
  refine ie_ H ?_ ?_<;>clear H<;>rintro rfl H
  ·have H' :=am_ H;clear H;obtain⟨q7,q8⟩:=nn_ h6;obtain⟨q9,u0⟩:=nn_ f0;obtain⟨u1,u2⟩:=nn_ c5
   obtain⟨m6,m7,m8,m9⟩:=bc2_ l
   go_wp2_with (first|((with_reducible refine gc_ 14 ?_);refine gl_ (some 19) Try.func14 #[.agg #[.int .i64 q,.slice x m.length y]] ?_;(with_reducible refine(spec_WebOk.calls k q _ _ m true _ ?_ ?_ g5.out).mono ?_);exact Kd.C_below V.out qB_;exact X.out;rintro e n0 ⟨rfl,hb⟩;refine⟨_,rfl,?_⟩;replace M:=am_ (Kd.R_below (by(with_reducible repeat(first|apply Kd.R_alloc|apply Kd.R_drewN|apply Kd.R_drew));exact(Kd.R_mono (Kd.R_far (p:=⟨D,1,none⟩) (Kd.R_far (p:=⟨D,0,none⟩) (Kd.R_types M.out v.out (by decide)) (fun _ hk=>hk.2) (.int .i64 c1)) (fun _ hk=>hk.2) (.slice c2 a9.length c3)) (fun _ h_=>h_.1))) hb);replace c4:=am_ (Kd.R_below (by(with_reducible repeat(first|apply Kd.R_alloc|apply Kd.R_drewN|apply Kd.R_drew));exact(Kd.R_mono (Kd.R_far (p:=⟨D,1,none⟩) (Kd.R_far (p:=⟨D,0,none⟩) (Kd.R_types c4.out v.out (by decide)) (fun _ hk=>hk.2) (.int .i64 c1)) (fun _ hk=>hk.2) (.slice c2 a9.length c3)) (fun _ h_=>h_.1))) hb);replace l:=qbl_ l hb;replace d:=qbl_ d hb;replace u:=qbl_ u hb;replace v:=am_ (blk_below (g:=D) (o:= .cells #[.int .i64 c1,.slice c2 a9.length c3] 69 (0,0)) (qp_ v) hb);replace HB:=hs_ hb;clear hb))
   go_meet
   case rel=>exact⟨_,(!f4),qe_,H',⟨qo_⟩,⟨by(with_reducible repeat(first|apply Kd.R_alloc|apply Kd.R_drewN|apply Kd.R_drew));exact Kd.R_mono c4.out (fun _ hk=>hk.2)⟩,⟨qk_ l⟩,⟨qk_ d⟩,⟨qk_ u⟩,⟨qk_ v⟩,⟨qB_⟩⟩
  have H' :=am_ H;clear H;obtain⟨u3,u4⟩:=nn_ h6;obtain⟨u5,u6⟩:=nn_ f0;obtain⟨u7,u8⟩:=nn_ c5
  obtain⟨n1,n2,n3,n4⟩:=bc2_ l
  go_wp2_with (first|((with_reducible refine gc_ 14 ?_);refine gl_ (some 19) Try.func14 #[.agg #[.int .i64 q,.slice x m.length y]] ?_;(with_reducible refine(spec_WebOk.calls k q _ _ m false _ ?_ ?_ g5.out).mono ?_);exact Kd.C_below V.out qB_;exact X.out;rintro e n5 ⟨rfl,hb⟩;refine⟨_,rfl,?_⟩;replace M:=am_ (Kd.R_below (by(with_reducible repeat(first|apply Kd.R_alloc|apply Kd.R_drewN|apply Kd.R_drew));exact(Kd.R_mono (Kd.R_far (p:=⟨D,1,none⟩) (Kd.R_far (p:=⟨D,0,none⟩) (Kd.R_types M.out v.out (by decide)) (fun _ hk=>hk.2) (.int .i64 c1)) (fun _ hk=>hk.2) (.slice c2 a9.length c3)) (fun _ h_=>h_.1))) hb);replace c4:=am_ (Kd.R_below (by(with_reducible repeat(first|apply Kd.R_alloc|apply Kd.R_drewN|apply Kd.R_drew));exact(Kd.R_mono (Kd.R_far (p:=⟨D,1,none⟩) (Kd.R_far (p:=⟨D,0,none⟩) (Kd.R_types c4.out v.out (by decide)) (fun _ hk=>hk.2) (.int .i64 c1)) (fun _ hk=>hk.2) (.slice c2 a9.length c3)) (fun _ h_=>h_.1))) hb);replace l:=qbl_ l hb;replace d:=qbl_ d hb;replace u:=qbl_ u hb;replace v:=am_ (blk_below (g:=D) (o:= .cells #[.int .i64 c1,.slice c2 a9.length c3] 69 (0,0)) (qp_ v) hb);replace HB:=hs_ hb;clear hb))
  go_meet
  case rel=>exact⟨_,(true),qe_,H',⟨qo_⟩,⟨by(with_reducible repeat(first|apply Kd.R_alloc|apply Kd.R_drewN|apply Kd.R_drew));exact Kd.R_mono c4.out (fun _ hk=>hk.2)⟩,⟨qk_ l⟩,⟨qk_ d⟩,⟨qk_ u⟩,⟨qk_ v⟩,⟨qB_⟩⟩
 case rest=>
  clear h5
  obtain⟨kq,c6,rfl,HA,r6,E,l,d,u,v,HB⟩:=hcut
  cases kq with
  |zero=>exact absurd HA.out (by simp [spec_WebAdd.j0])
  |succ kj4=>
   have H:=HA.out;clear HA
   simp only[spec_WebAdd.j0]at H
   refine ie_ H ?_ ?_<;>clear H<;>rintro rfl H
   ·simp only[Option.some.injEq,Prod.mk.injEq]at H
    obtain⟨rfl,rfl,rfl⟩:=H
    obtain⟨u9,v0⟩:=nn_ h7;obtain⟨v1,v2⟩:=nn_ h8;obtain⟨v3,v4⟩:=nn_ d0
    obtain⟨r7,r8,r9,s0⟩:=bc2_ u
    go_wp2
    refine bodyPost_ret (results_ct rfl _ _ L 29 #[.int .i64 0,.slice none 0 0] (0,0) _ rfl (qp_ u) Try.underlying29 rfl (by kernel_rfl)) rfl ?_
    exact⟨_,qr_,by first|exact Kd.R_nil _ _ _ _ _|exact Kd.N_nil _ _ _ _ _|exact Kd.V_nil _ _ _ _ _|exact Kd.Q_nil _ _ _ _ _|exact Kd.S_nil _ _ _ _ _,qB_⟩
   obtain⟨⟨U,G,o4⟩,i3,H⟩:=bs_ H;dsimp only at H
   obtain⟨b2,g6,H⟩:=bs_ H
   obtain⟨b1,f5,H⟩:=bs_ H
   obtain⟨i4,i5,H⟩:=bs_ H
   simp only[Option.some.injEq,Prod.mk.injEq]at H
   obtain⟨rfl,rfl,rfl⟩:=H
   obtain⟨v5,v6⟩:=nn_ h6;obtain⟨v7,v8⟩:=nn_ f0;obtain⟨v9,s1⟩:=nn_ c5
   obtain⟨s2,s3,s4,s5⟩:=bc2_ l
   try go_wp2_with (first|((with_reducible refine gc_ 58 ?_);refine gl_ (some 28) Try.func58 #[.agg #[.int .i64 q,.slice x m.length y],.int .i64 0] ?_;(with_reducible refine(spec_ForestAt.calls kj4 q _ _ m 0 U G o4 _ ?_ ?_ i3.out).mono ?_);exact qC_ V HB;exact X.out;rintro e o5 ⟨s6,rfl,ho0,hb⟩;refine⟨_,rfl,?_⟩;have B:=am_ (Kd.S_lower ho0 (below_size qB_));replace E:=kb_ E hb;replace l:=qbl_ l hb;replace d:=qbl_ d hb;replace u:=qbl_ u hb;replace v:=qbl_ v hb;replace HB:=hs_ hb;clear hb ho0)|((with_reducible refine gd_ 8 ?_);refine by_ 8 (cs:= #[.int .i64 0,.slice none 0 0]) (t:=39) ?_;intro J hg b8 z hb;have s7:=gw_ hg;obtain⟨s8,o6⟩:=qn_ l hg;obtain⟨s9,o7⟩:=qn_ d hg;obtain⟨k8,i6⟩:=qn_ u hg;obtain⟨t0,o8⟩:=qn_ v hg;replace E:=kb_ E hb;replace B:=am_ (Kd.S_below (qS_ B) hb);replace l:=qbl_ l hb;replace d:=qbl_ d hb;replace u:=qbl_ u hb;replace v:=qbl_ v hb;replace HB:=hs_ hb;clear hb hg;obtain⟨t1,t2⟩:=nn_ o6;obtain⟨t3,t4⟩:=nn_ o7;obtain⟨t5,t6⟩:=nn_ i6;obtain⟨t7,t8⟩:=nn_ o8;obtain⟨t9,w0,w2,w3⟩:=bc2_ z;obtain⟨a7,a8,o9⟩:=Kd.S_slice B.out;subst o9))
   have Z:Aside0 (Kd.R k43 43 ((b8.setCell ⟨J,0,none⟩ (.int .i64 U)).setCell ⟨J,1,none⟩ (.slice a7 G.length a8)) w.heap.size (fun k_=>k_≠I) (.slice c2 a9.length c3) a9):=⟨by(with_reducible repeat(first|apply Kd.R_alloc|apply Kd.R_drewN|apply Kd.R_drew));exact Kd.R_mono (Kd.R_far (p:=⟨J,1,none⟩) (Kd.R_far (p:=⟨J,0,none⟩) (Kd.R_types E.out z.out (by decide)) (fun _ hk=>hk.2) (.int .i64 U)) (fun _ hk=>hk.2) (.slice a7 G.length a8)) (fun _ hk=>hk.1)⟩
   have a0:Aside0 (Kd.S (Kd.slice 3 (Kd.int .i64)) 51 ((b8.setCell ⟨J,0,none⟩ (.int .i64 U)).setCell ⟨J,1,none⟩ (.slice a7 G.length a8)) w.heap.size (fun _=>True) (.slice a7 G.length a8) G):=⟨by(with_reducible repeat(first|apply Kd.S_alloc|apply Kd.S_drewN|apply Kd.S_drew));exact Kd.S_mono (Kd.S_far (p:=⟨J,1,none⟩) (Kd.S_far (p:=⟨J,0,none⟩) (Kd.S_types B.out z.out (by decide)) (fun _ hk=>hk.2) (.int .i64 U)) (fun _ hk=>hk.2) (.slice a7 G.length a8)) (fun _ hk=>trivial)⟩
   have a1:Aside0 (((b8.setCell ⟨J,0,none⟩ (.int .i64 U)).setCell ⟨J,1,none⟩ (.slice a7 G.length a8)).heap[b0]? =some (.cells #[.int .i64 q,.slice x m.length y] 29 (0,0))):=⟨qf_ l⟩
   have a2:Aside0 (((b8.setCell ⟨J,0,none⟩ (.int .i64 U)).setCell ⟨J,1,none⟩ (.slice a7 G.length a8)).heap[I]? =some (.cells #[.int .i64 c,.int .i64 a] 43 (0,0))):=⟨qf_ d⟩
   have a3:Aside0 (((b8.setCell ⟨J,0,none⟩ (.int .i64 U)).setCell ⟨J,1,none⟩ (.slice a7 G.length a8)).heap[L]? =some (.cells #[.int .i64 0,.slice none 0 0] 29 (0,0))):=⟨qf_ u⟩
   have a4:Aside0 (((b8.setCell ⟨J,0,none⟩ (.int .i64 U)).setCell ⟨J,1,none⟩ (.slice a7 G.length a8)).heap[D]? =some (.cells #[.int .i64 c1,.slice c2 a9.length c3] 69 (0,0))):=⟨qf_ v⟩
   have a5:Aside0 (((b8.setCell ⟨J,0,none⟩ (.int .i64 U)).setCell ⟨J,1,none⟩ (.slice a7 G.length a8)).heap[J]? =some (.cells #[.int .i64 U,.slice a7 G.length a8] 39 (0,0))):=⟨qp_ z⟩
   have a6:Aside0 (Below w.heap.size w ((b8.setCell ⟨J,0,none⟩ (.int .i64 U)).setCell ⟨J,1,none⟩ (.slice a7 G.length a8))):=⟨qB_⟩
   clear E B l d u v z HB
   generalize ((b8.setCell ⟨J,0,none⟩ (.int .i64 U)).setCell ⟨J,1,none⟩ (.slice a7 G.length a8))=i7 at Z a0 a1 a2 a3 a4 a5 a6 ⊢
   have E:=Z;have B:=a0;have l:=a1;have d:=a2;have u:=a3;have v:=a4;have z:=a5;have HB:=a6;clear Z a0 a1 a2 a3 a4 a5 a6
   replace E:=rd_ E;replace B:=am_ (Kd.S_drew B.out);replace l:=bd_ l;replace d:=bd_ d;replace u:=bd_ u;replace v:=bd_ v;replace z:=bd_ z;replace HB:=hd_ HB
   refine start_ (n:=16) (S:=fun w' =>w'.cell? ⟨I,0,none⟩=some (.int .i64 c)∧w'.cell? ⟨I,1,none⟩=some (.int .i64 a)∧w'.cell? ⟨J,0,none⟩=some (.int .i64 U)∧w'.cell? ⟨J,1,none⟩=some (.slice a7 G.length a8)) (ds:=[]) (bm 16 0) (by kernel_rfl) rfl (by kernel_rfl) ⟨bl_ d 0,bl_ d 1,bl_ z 0,bl_ z 1⟩ (fun hHeld=> ?_);refine with_tabW spec_WebAdd.tab5 spec_WebAdd.bits5 (fun HT_ HW_=> ?_)
   generalize i7.drew=p0 at E B l d u v z HB hHeld ⊢
   refine pz_ 0 31 16 1 ?_;refine pz_ 2 33 16 5 ?_;refine pz_ 5 36 16 37 ?_;refine pz_ 9 40 16 549 ?_;refine tz4_ 1 32 16 551 ?_;refine tz4_ 3 34 16 559 ?_;refine tz4_ 4 35 16 575 ?_;refine tz4_ 6 37 16 639 ?_;refine tz4_ 8 39 16 895 ?_;refine tz4_ 10 41 16 1919 ?_
   refine join_ (σ :=Nat) 1 #[true,true,true,true,true,true,true,true,true,true,true,true,true,true,true,false] (fun s_=>[(38,.int .i64 b2),(42,.int .i64 b1),(10,.pointer (some ⟨s_,0,none⟩)),(43,.bool (b2 != b1)),(44,.agg #[.int .i64 c,.int .i64 a,.int .i64 0,.bool (b2 != b1)])]) (fun s_ w' =>(w'.cell? ⟨I,0,none⟩=some (.int .i64 c)∧w'.cell? ⟨I,1,none⟩=some (.int .i64 a)∧w'.cell? ⟨J,0,none⟩=some (.int .i64 U)∧w'.cell? ⟨J,1,none⟩=some (.slice a7 G.length a8))∧(Kd.S (Kd.slice 3 (Kd.int .i64)) 51 w' w.heap.size (fun _=>True) (.slice a7 G.length a8) G)∧(Kd.R k43 43 w' w.heap.size (fun k_=>k_≠I) (.slice c2 a9.length c3) a9)∧(w'.heap[b0]? =some (.cells #[.int .i64 q,.slice x m.length y] 29 (0,0)))∧(w'.heap[I]? =some (.cells #[.int .i64 c,.int .i64 a] 43 (0,0)))∧(w'.heap[L]? =some (.cells #[.int .i64 0,.slice none 0 0] 29 (0,0)))∧(w'.heap[D]? =some (.cells #[.int .i64 c1,.slice c2 a9.length c3] 69 (0,0)))∧(w'.heap[J]? =some (.cells #[.int .i64 U,.slice a7 G.length a8] 39 (0,0)))∧(w'.heap[s_]? =some (.cells #[.int .i64 0,.int .i64 0,.int .i64 0,.bool false] 72 (0,0)))∧(w.heap.size≤s_)∧(w.heap.size≤s_)∧(b0≠s_)∧(s_≠b0)∧(I≠s_)∧(s_≠I)∧(L≠s_)∧(s_≠L)∧(D≠s_)∧(s_≠D)∧(J≠s_)∧(s_≠J)∧(Below w.heap.size w w')) ?_ ?_
   rotate_left
   ·intro hCont
    refine two_ (i:=7) (j:=14) (Ni:=some 38) (Nj:=some 10) (bm 16 2047) #[true,true,true,true,true,true,true,false,true,true,true,false,false,false,true,false] rfl rfl rfl rfl (two_of HT_.out (by kernel_rfl)) (by decide) (by decide) (fun K hK=> ?_) (fun K hK=> ?_)
    ·skip
     refine gs_ Try.func60 #[.agg #[.int .i64 U,.slice a7 G.length a8],.int .i64 c] ?_
     with_reducible refine(spec_TreeOf.calls kj4 U _ _ G c b2 _ ?side1 ?side2 g6.out).mono ?_
     (case side1=>exact qD_ (Kd.S_reads' B.out).2.2)
     (case side2=>exact(Kd.S_reads' B.out).2.1)
     rintro e i8 ⟨rfl,hb⟩
     refine⟨_,rfl,?_⟩
     replace E:=kb_ E hb;replace B:=am_ (Kd.S_below (qS_ B) hb);replace l:=qbl_ l hb;replace d:=qbl_ d hb;replace u:=qbl_ u hb;replace v:=qbl_ v hb;replace z:=qbl_ z hb;replace HB:=hs_ hb;clear hb
     refine hK.out _ _ ⟨bl_ d 0,bl_ d 1,bl_ z 0,bl_ z 1⟩ (fun hHeld=> ?_)
     clear hK K
     refine nm_ 38 ?_
     refine two_ (i:=11) (j:=14) (Ni:=some 42) (Nj:=some 10) (bm 16 4095) #[true,true,true,true,true,true,true,true,true,true,true,false,false,false,true,false] rfl rfl rfl rfl (two_of HT_.out (by kernel_rfl)) (by decide) (by decide) (fun K hK=> ?_) (fun K hK=> ?_)
     ·skip
      refine gs_ Try.func60 #[.agg #[.int .i64 U,.slice a7 G.length a8],.int .i64 a] ?_
      with_reducible refine(spec_TreeOf.calls kj4 U _ _ G a b1 _ ?side1 ?side2 f5.out).mono ?_
      (case side1=>exact qD_ (Kd.S_reads' B.out).2.2)
      (case side2=>exact(Kd.S_reads' B.out).2.1)
      rintro e g7 ⟨rfl,hb⟩
      refine⟨_,rfl,?_⟩
      replace E:=kb_ E hb;replace B:=am_ (Kd.S_below (qS_ B) hb);replace l:=qbl_ l hb;replace d:=qbl_ d hb;replace u:=qbl_ u hb;replace v:=qbl_ v hb;replace z:=qbl_ z hb;replace HB:=hs_ hb;clear hb
      refine hK.out _ _ ⟨bl_ d 0,bl_ d 1,bl_ z 0,bl_ z 1⟩ (fun hHeld=> ?_)
      clear hK K
      refine nm_ 42 ?_
      refine pz_ 12 43 16 8191 ?_;refine pz_ 13 44 16 16383 ?_
      refine o1_ 14 (some 10) 16 32767 (fun K hK=> ?_)
      refine box_step ?hg (N:=10) ?hd (cs:= #[.int .i64 0,.int .i64 0,.int .i64 0,.bool false]) (t:=72) ?hr ?_;(case hd=>rfl);(case hg=>rfl);(case hr=>first|(go_simp;done)|(go_simp;rfl))
      intro s hg g8 hbox hb
      have F:=am_ (hbox);have f8:=gw_ hg;have f9:=gw_ hg;have e3:=(qn_ l hg).1;have e4:=(qn_ l hg).2;have b9:=(qn_ d hg).1;have e5:=(qn_ d hg).2;have c9:=(qn_ u hg).1;have b3:=(qn_ u hg).2;have e6:=(qn_ v hg).1;have e7:=(qn_ v hg).2;have c0:=(qn_ z hg).1;have e8:=(qn_ z hg).2;replace E:=kb_ E hb;replace B:=am_ (Kd.S_below (qS_ B) hb);replace l:=qbl_ l hb;replace d:=qbl_ d hb;replace u:=qbl_ u hb;replace v:=qbl_ v hb;replace z:=qbl_ z hb;replace HB:=hs_ hb;clear hb hbox hg
      refine hK.out _ _ ⟨bl_ d 0,bl_ d 1,bl_ z 0,bl_ z 1⟩ (fun hHeld=> ?_)
      clear hK K
      refine nm_ 10 ?_
      exact norm_ (by simp only[putAll,Act.put,sA_,sB_,sC_]) (hCont (s) _ ⟨hHeld,(qS_ B),(qR_ E),(qk_ l),(qk_ d),(qk_ u),(qk_ v),(qk_ z),(qk_ F),f8.out,f9.out,e3.out,e4.out,b9.out,e5.out,c9.out,b3.out,e6.out,e7.out,c0.out,e8.out,qB_⟩)
     skip
     refine box_step ?hg (N:=10) ?hd (cs:= #[.int .i64 0,.int .i64 0,.int .i64 0,.bool false]) (t:=72) ?hr ?_;(case hd=>rfl);(case hg=>rfl);(case hr=>first|(go_simp;done)|(go_simp;rfl))
     intro s hg g7 hbox hb
     have F:=am_ (hbox);have f8:=gw_ hg;have f9:=gw_ hg;have e3:=(qn_ l hg).1;have e4:=(qn_ l hg).2;have b9:=(qn_ d hg).1;have e5:=(qn_ d hg).2;have c9:=(qn_ u hg).1;have b3:=(qn_ u hg).2;have e6:=(qn_ v hg).1;have e7:=(qn_ v hg).2;have c0:=(qn_ z hg).1;have e8:=(qn_ z hg).2;replace E:=kb_ E hb;replace B:=am_ (Kd.S_below (qS_ B) hb);replace l:=qbl_ l hb;replace d:=qbl_ d hb;replace u:=qbl_ u hb;replace v:=qbl_ v hb;replace z:=qbl_ z hb;replace HB:=hs_ hb;clear hb hbox hg
     refine hK.out _ _ ⟨bl_ d 0,bl_ d 1,bl_ z 0,bl_ z 1⟩ (fun hHeld=> ?_)
     clear hK K
     refine nm_ 10 ?_
     refine o1_ 11 (some 42) 16 20479 (fun K hK=> ?_)
     refine gs_ Try.func60 #[.agg #[.int .i64 U,.slice a7 G.length a8],.int .i64 a] ?_
     with_reducible refine(spec_TreeOf.calls kj4 U _ _ G a b1 _ ?side1 ?side2 f5.out).mono ?_
     (case side1=>exact qD_ (Kd.S_reads' B.out).2.2)
     (case side2=>exact(Kd.S_reads' B.out).2.1)
     rintro e g8 ⟨rfl,hb⟩
     refine⟨_,rfl,?_⟩
     replace E:=kb_ E hb;replace B:=am_ (Kd.S_below (qS_ B) hb);replace l:=qbl_ l hb;replace d:=qbl_ d hb;replace u:=qbl_ u hb;replace v:=qbl_ v hb;replace z:=qbl_ z hb;replace F:=qbl_ F hb;replace HB:=hs_ hb;clear hb
     refine hK.out _ _ ⟨bl_ d 0,bl_ d 1,bl_ z 0,bl_ z 1⟩ (fun hHeld=> ?_)
     clear hK K
     refine nm_ 42 ?_
     refine pz_ 12 43 16 24575 ?_;refine pz_ 13 44 16 32767 ?_
     exact norm_ (by simp only[putAll,Act.put,sA_,sB_,sC_]) (hCont (s) _ ⟨hHeld,(qS_ B),(qR_ E),(qk_ l),(qk_ d),(qk_ u),(qk_ v),(qk_ z),(qk_ F),f8.out,f9.out,e3.out,e4.out,b9.out,e5.out,c9.out,b3.out,e6.out,e7.out,c0.out,e8.out,qB_⟩)
    skip
    refine box_step ?hg (N:=10) ?hd (cs:= #[.int .i64 0,.int .i64 0,.int .i64 0,.bool false]) (t:=72) ?hr ?_;(case hd=>rfl);(case hg=>rfl);(case hr=>first|(go_simp;done)|(go_simp;rfl))
    intro s hg i8 hbox hb
    have F:=am_ (hbox);have f8:=gw_ hg;have f9:=gw_ hg;have e3:=(qn_ l hg).1;have e4:=(qn_ l hg).2;have b9:=(qn_ d hg).1;have e5:=(qn_ d hg).2;have c9:=(qn_ u hg).1;have b3:=(qn_ u hg).2;have e6:=(qn_ v hg).1;have e7:=(qn_ v hg).2;have c0:=(qn_ z hg).1;have e8:=(qn_ z hg).2;replace E:=kb_ E hb;replace B:=am_ (Kd.S_below (qS_ B) hb);replace l:=qbl_ l hb;replace d:=qbl_ d hb;replace u:=qbl_ u hb;replace v:=qbl_ v hb;replace z:=qbl_ z hb;replace HB:=hs_ hb;clear hb hbox hg
    refine hK.out _ _ ⟨bl_ d 0,bl_ d 1,bl_ z 0,bl_ z 1⟩ (fun hHeld=> ?_)
    clear hK K
    refine nm_ 10 ?_
    refine o1_ 7 (some 38) 16 18431 (fun K hK=> ?_)
    refine gs_ Try.func60 #[.agg #[.int .i64 U,.slice a7 G.length a8],.int .i64 c] ?_
    with_reducible refine(spec_TreeOf.calls kj4 U _ _ G c b2 _ ?side1 ?side2 g6.out).mono ?_
    (case side1=>exact qD_ (Kd.S_reads' B.out).2.2)
    (case side2=>exact(Kd.S_reads' B.out).2.1)
    rintro e g7 ⟨rfl,hb⟩
    refine⟨_,rfl,?_⟩
    replace E:=kb_ E hb;replace B:=am_ (Kd.S_below (qS_ B) hb);replace l:=qbl_ l hb;replace d:=qbl_ d hb;replace u:=qbl_ u hb;replace v:=qbl_ v hb;replace z:=qbl_ z hb;replace F:=qbl_ F hb;replace HB:=hs_ hb;clear hb
    refine hK.out _ _ ⟨bl_ d 0,bl_ d 1,bl_ z 0,bl_ z 1⟩ (fun hHeld=> ?_)
    clear hK K
    refine nm_ 38 ?_
    refine o1_ 11 (some 42) 16 20479 (fun K hK=> ?_)
    refine gs_ Try.func60 #[.agg #[.int .i64 U,.slice a7 G.length a8],.int .i64 a] ?_
    with_reducible refine(spec_TreeOf.calls kj4 U _ _ G a b1 _ ?side1 ?side2 f5.out).mono ?_
    (case side1=>exact qD_ (Kd.S_reads' B.out).2.2)
    (case side2=>exact(Kd.S_reads' B.out).2.1)
    rintro e g8 ⟨rfl,hb⟩
    refine⟨_,rfl,?_⟩
    replace E:=kb_ E hb;replace B:=am_ (Kd.S_below (qS_ B) hb);replace l:=qbl_ l hb;replace d:=qbl_ d hb;replace u:=qbl_ u hb;replace v:=qbl_ v hb;replace z:=qbl_ z hb;replace F:=qbl_ F hb;replace HB:=hs_ hb;clear hb
    refine hK.out _ _ ⟨bl_ d 0,bl_ d 1,bl_ z 0,bl_ z 1⟩ (fun hHeld=> ?_)
    clear hK K
    refine nm_ 42 ?_
    refine pz_ 12 43 16 24575 ?_;refine pz_ 13 44 16 32767 ?_
    exact norm_ (by simp only[putAll,Act.put,sA_,sB_,sC_]) (hCont (s) _ ⟨hHeld,(qS_ B),(qR_ E),(qk_ l),(qk_ d),(qk_ u),(qk_ v),(qk_ z),(qk_ F),f8.out,f9.out,e3.out,e4.out,b9.out,e5.out,c9.out,b3.out,e6.out,e7.out,c0.out,e8.out,qB_⟩)
   rintro s A ⟨hS_,d1,d2,d3,d4,d5,d6,d7,d8,d9,e0,h10_,h11_,h12_,h13_,h14_,h15_,h16_,h17_,h18_,h19_,h20_⟩
   have Z:Aside0 (Kd.S (Kd.slice 3 (Kd.int .i64)) 51 A w.heap.size (fun _=>True) (.slice a7 G.length a8) G):=⟨d1⟩
   have a0:Aside0 (Kd.R k43 43 A w.heap.size (fun k_=>k_≠I) (.slice c2 a9.length c3) a9):=⟨d2⟩
   have a1:Aside0 (A.heap[b0]? =some (.cells #[.int .i64 q,.slice x m.length y] 29 (0,0))):=⟨d3⟩
   have a2:Aside0 (A.heap[I]? =some (.cells #[.int .i64 c,.int .i64 a] 43 (0,0))):=⟨d4⟩
   have a3:Aside0 (A.heap[L]? =some (.cells #[.int .i64 0,.slice none 0 0] 29 (0,0))):=⟨d5⟩
   have a4:Aside0 (A.heap[D]? =some (.cells #[.int .i64 c1,.slice c2 a9.length c3] 69 (0,0))):=⟨d6⟩
   have a5:Aside0 (A.heap[J]? =some (.cells #[.int .i64 U,.slice a7 G.length a8] 39 (0,0))):=⟨d7⟩
   have a6:Aside0 (A.heap[s]? =some (.cells #[.int .i64 0,.int .i64 0,.int .i64 0,.bool false] 72 (0,0))):=⟨d8⟩
   have b7:Aside0 (w.heap.size≤s):=⟨d9⟩
   have e1:Aside0 (w.heap.size≤s):=⟨e0⟩
   have n10_:Aside0 (b0≠s):=⟨h10_⟩
   have n11_:Aside0 (s≠b0):=⟨h11_⟩
   have n12_:Aside0 (I≠s):=⟨h12_⟩
   have n13_:Aside0 (s≠I):=⟨h13_⟩
   have n14_:Aside0 (L≠s):=⟨h14_⟩
   have n15_:Aside0 (s≠L):=⟨h15_⟩
   have n16_:Aside0 (D≠s):=⟨h16_⟩
   have n17_:Aside0 (s≠D):=⟨h17_⟩
   have n18_:Aside0 (J≠s):=⟨h18_⟩
   have n19_:Aside0 (s≠J):=⟨h19_⟩
   have n20_:Aside0 (Below w.heap.size w A):=⟨h20_⟩
   clear E B l d u v z HB d1 d2 d3 d4 d5 d6 d7 d8 d9 e0 h10_ h11_ h12_ h13_ h14_ h15_ h16_ h17_ h18_ h19_ h20_;have B:=Z;have E:=a0;have l:=a1;have d:=a2;have u:=a3;have v:=a4;have z:=a5;have F:=a6;have f8:=b7;have f9:=e1;have e3:=n10_;have e4:=n11_;have b9:=n12_;have e5:=n13_;have c9:=n14_;have b3:=n15_;have e6:=n16_;have e7:=n17_;have c0:=n18_;have e8:=n19_;have HB:=n20_;clear Z a0 a1 a2 a3 a4 a5 a6 b7 e1 n10_ n11_ n12_ n13_ n14_ n15_ n16_ n17_ n18_ n19_ n20_
   have hHeld:A.cell? ⟨I,0,none⟩=some (.int .i64 c)∧A.cell? ⟨I,1,none⟩=some (.int .i64 a)∧A.cell? ⟨J,0,none⟩=some (.int .i64 U)∧A.cell? ⟨J,1,none⟩=some (.slice a7 G.length a8):=hS_
   refine norm_ (a' := ?_) ?_ ?_
   rotate_left
   ·simp only[putAll,Act.put,sA_,sB_,sC_]
    rfl
   refine o1_ 15 none 16 65535 (fun K hK=> ?_)
   have k9:A.cell? ⟨s,0,none⟩=some (.int .i64 0):=bl_ F 0
   have i9:=blk_frozen F.out 0
   have w4:=e3.out;have w5:=b9.out;have w6:=c9.out;have w7:=e6.out;have w8:=c0.out;have w9:=e4.out;have x0:=e5.out;have x1:=b3.out;have x2:=e7.out;have x3:=e8.out
   have l4:A.cell? ⟨s,1,none⟩=some (.int .i64 0):=bl_ F 1
   have j5:=blk_frozen F.out 1
   have x4:=e3.out;have x5:=b9.out;have x6:=c9.out;have x7:=e6.out;have x8:=c0.out;have x9:=e4.out;have y0:=e5.out;have y1:=b3.out;have y2:=e7.out;have y3:=e8.out
   have l5:A.cell? ⟨s,2,none⟩=some (.int .i64 0):=bl_ F 2
   have j6:=blk_frozen F.out 2
   have y4:=e3.out;have y5:=b9.out;have y6:=c9.out;have y7:=e6.out;have y8:=c0.out;have y9:=e4.out;have z0:=e5.out;have z1:=b3.out;have z2:=e7.out;have z3:=e8.out
   have l6:A.cell? ⟨s,3,none⟩=some (.bool false):=bl_ F 3
   have j7:=blk_frozen F.out 3
   have z4:=e3.out;have z5:=b9.out;have z6:=c9.out;have z7:=e6.out;have z8:=c0.out;have z9:=e4.out;have A0:=e5.out;have A1:=b3.out;have A2:=e7.out;have A3:=e8.out
   refine skip_ (w1:= ?_) (by rfl) rfl ?_ ?_
   rotate_left
   ·go_simp
    rfl
   refine hK.out _ _ ⟨((cell_far (p:=⟨s,_,none⟩) b9.out _).trans (((cell_far (p:=⟨s,_,none⟩) b9.out _).trans (((cell_far (p:=⟨s,_,none⟩) b9.out _).trans (((cell_far (p:=⟨s,_,none⟩) b9.out _).trans (hHeld.1)))))))),((cell_far (p:=⟨s,_,none⟩) b9.out _).trans (((cell_far (p:=⟨s,_,none⟩) b9.out _).trans (((cell_far (p:=⟨s,_,none⟩) b9.out _).trans (((cell_far (p:=⟨s,_,none⟩) b9.out _).trans (hHeld.2.1)))))))),((cell_far (p:=⟨s,_,none⟩) c0.out _).trans (((cell_far (p:=⟨s,_,none⟩) c0.out _).trans (((cell_far (p:=⟨s,_,none⟩) c0.out _).trans (((cell_far (p:=⟨s,_,none⟩) c0.out _).trans (hHeld.2.2.1)))))))),((cell_far (p:=⟨s,_,none⟩) c0.out _).trans (((cell_far (p:=⟨s,_,none⟩) c0.out _).trans (((cell_far (p:=⟨s,_,none⟩) c0.out _).trans (((cell_far (p:=⟨s,_,none⟩) c0.out _).trans (hHeld.2.2.2))))))))⟩ (fun hHeld=> ?_)
   clear hK K
   refine done_ (done_of HT_.out (by kernel_rfl)) ?_
   try go_wp2
   have Z:Aside0 (Kd.R k43 43 ((((A.setCell ⟨s,0,none⟩ (.int .i64 c)).setCell ⟨s,1,none⟩ (.int .i64 a)).setCell ⟨s,2,none⟩ (.int .i64 0)).setCell ⟨s,3,none⟩ (.bool (b2 != b1))) w.heap.size (fun k_=>k_≠I) (.slice c2 a9.length c3) a9):=⟨by(with_reducible repeat(first|apply Kd.R_alloc|apply Kd.R_drewN|apply Kd.R_drew));exact Kd.R_mono (Kd.R_far (p:=⟨s,3,none⟩) (Kd.R_far (p:=⟨s,2,none⟩) (Kd.R_far (p:=⟨s,1,none⟩) (Kd.R_far (p:=⟨s,0,none⟩) (Kd.R_types E.out F.out (by decide)) (fun _ hk=>hk.2) (.int .i64 c)) (fun _ hk=>hk.2) (.int .i64 a)) (fun _ hk=>hk.2) (.int .i64 0)) (fun _ hk=>hk.2) (.bool (b2 != b1))) (fun _ hk=>hk.1)⟩
   have a0:Aside0 (Kd.S (Kd.slice 3 (Kd.int .i64)) 51 ((((A.setCell ⟨s,0,none⟩ (.int .i64 c)).setCell ⟨s,1,none⟩ (.int .i64 a)).setCell ⟨s,2,none⟩ (.int .i64 0)).setCell ⟨s,3,none⟩ (.bool (b2 != b1))) w.heap.size (fun _=>True) (.slice a7 G.length a8) G):=⟨by(with_reducible repeat(first|apply Kd.S_alloc|apply Kd.S_drewN|apply Kd.S_drew));exact Kd.S_mono (Kd.S_far (p:=⟨s,3,none⟩) (Kd.S_far (p:=⟨s,2,none⟩) (Kd.S_far (p:=⟨s,1,none⟩) (Kd.S_far (p:=⟨s,0,none⟩) (Kd.S_types B.out F.out (by decide)) (fun _ hk=>hk.2) (.int .i64 c)) (fun _ hk=>hk.2) (.int .i64 a)) (fun _ hk=>hk.2) (.int .i64 0)) (fun _ hk=>hk.2) (.bool (b2 != b1))) (fun _ hk=>trivial)⟩
   have a1:Aside0 (((((A.setCell ⟨s,0,none⟩ (.int .i64 c)).setCell ⟨s,1,none⟩ (.int .i64 a)).setCell ⟨s,2,none⟩ (.int .i64 0)).setCell ⟨s,3,none⟩ (.bool (b2 != b1))).heap[b0]? =some (.cells #[.int .i64 q,.slice x m.length y] 29 (0,0))):=⟨qf_ l⟩
   have a2:Aside0 (((((A.setCell ⟨s,0,none⟩ (.int .i64 c)).setCell ⟨s,1,none⟩ (.int .i64 a)).setCell ⟨s,2,none⟩ (.int .i64 0)).setCell ⟨s,3,none⟩ (.bool (b2 != b1))).heap[I]? =some (.cells #[.int .i64 c,.int .i64 a] 43 (0,0))):=⟨qf_ d⟩
   have a3:Aside0 (((((A.setCell ⟨s,0,none⟩ (.int .i64 c)).setCell ⟨s,1,none⟩ (.int .i64 a)).setCell ⟨s,2,none⟩ (.int .i64 0)).setCell ⟨s,3,none⟩ (.bool (b2 != b1))).heap[L]? =some (.cells #[.int .i64 0,.slice none 0 0] 29 (0,0))):=⟨qf_ u⟩
   have a4:Aside0 (((((A.setCell ⟨s,0,none⟩ (.int .i64 c)).setCell ⟨s,1,none⟩ (.int .i64 a)).setCell ⟨s,2,none⟩ (.int .i64 0)).setCell ⟨s,3,none⟩ (.bool (b2 != b1))).heap[D]? =some (.cells #[.int .i64 c1,.slice c2 a9.length c3] 69 (0,0))):=⟨qf_ v⟩
   have a5:Aside0 (((((A.setCell ⟨s,0,none⟩ (.int .i64 c)).setCell ⟨s,1,none⟩ (.int .i64 a)).setCell ⟨s,2,none⟩ (.int .i64 0)).setCell ⟨s,3,none⟩ (.bool (b2 != b1))).heap[J]? =some (.cells #[.int .i64 U,.slice a7 G.length a8] 39 (0,0))):=⟨qf_ z⟩
   have a6:Aside0 (((((A.setCell ⟨s,0,none⟩ (.int .i64 c)).setCell ⟨s,1,none⟩ (.int .i64 a)).setCell ⟨s,2,none⟩ (.int .i64 0)).setCell ⟨s,3,none⟩ (.bool (b2 != b1))).heap[s]? =some (.cells #[.int .i64 c,.int .i64 a,.int .i64 0,.bool (b2 != b1)] 72 (0,0))):=⟨qp_ F⟩
   have b7:Aside0 (Below w.heap.size w ((((A.setCell ⟨s,0,none⟩ (.int .i64 c)).setCell ⟨s,1,none⟩ (.int .i64 a)).setCell ⟨s,2,none⟩ (.int .i64 0)).setCell ⟨s,3,none⟩ (.bool (b2 != b1)))):=⟨qB_⟩
   clear E B l d u v z F HB
   generalize ((((A.setCell ⟨s,0,none⟩ (.int .i64 c)).setCell ⟨s,1,none⟩ (.int .i64 a)).setCell ⟨s,2,none⟩ (.int .i64 0)).setCell ⟨s,3,none⟩ (.bool (b2 != b1)))=j8 at Z a0 a1 a2 a3 a4 a5 a6 b7 ⊢
   have E:=Z;have B:=a0;have l:=a1;have d:=a2;have u:=a3;have v:=a4;have z:=a5;have F:=a6;have HB:=b7;clear Z a0 a1 a2 a3 a4 a5 a6 b7
   replace E:=rd_ E;replace B:=am_ (Kd.S_drew B.out);replace l:=bd_ l;replace d:=bd_ d;replace u:=bd_ u;replace v:=bd_ v;replace z:=bd_ z;replace F:=bd_ F;replace HB:=hd_ HB
   refine start_ (n:=9) (S:=fun w' =>w'.cell? ⟨b0,0,none⟩=some (.int .i64 q)∧w'.cell? ⟨b0,1,none⟩=some (.slice x m.length y)∧w'.cell? ⟨s,0,none⟩=some (.int .i64 c)∧w'.cell? ⟨s,1,none⟩=some (.int .i64 a)∧w'.cell? ⟨s,2,none⟩=some (.int .i64 0)∧w'.cell? ⟨s,3,none⟩=some (.bool (b2 != b1))) (ds:=[]) (bm 9 0) (by kernel_rfl) rfl (by kernel_rfl) ⟨bl_ l 0,bl_ l 1,bl_ F 0,bl_ F 1,bl_ F 2,bl_ F 3⟩ (fun hHeld=> ?_);refine with_tabW spec_WebAdd.tab6 spec_WebAdd.bits6 (fun HT_ HW_=> ?_)
   generalize j8.drew=p1 at E B l d u v z F HB hHeld ⊢
   refine pz_ 0 45 9 1 ?_;refine pz_ 2 47 9 5 ?_;refine tz6_ 1 46 9 7 ?_;refine tz6_ 3 48 9 15 ?_;refine tz6_ 4 49 9 31 ?_
   refine o1_ 5 (some 50) 9 63 (fun K hK=> ?_)
   refine gs_ Try.func88 #[.slice x m.length y,.agg #[.int .i64 c,.int .i64 a,.int .i64 0,.bool (b2 != b1)]] ?_
   with_reducible refine(spec_l08Put.calls kj4 _ _ m c a 0 (b2 != b1) i4 _ ?side1 ?side2 i5.out).mono ?_
   (case side1=>exact qC_ V HB)
   (case side2=>exact X.out)
   rintro e g9 ⟨A4,rfl,ho0,hb⟩
   refine⟨_,rfl,?_⟩
   have l7:=am_ (Kd.R_lower (Kd.R_newB ho0 (qk_ F)) (below_size qB_));replace E:=kb_ E hb;replace B:=am_ (Kd.S_below (qS_ B) hb);replace l:=qbl_ l hb;replace d:=qbl_ d hb;replace u:=qbl_ u hb;replace v:=qbl_ v hb;replace z:=qbl_ z hb;replace F:=qbl_ F hb;replace HB:=hs_ hb;clear hb ho0
   obtain⟨l8,l9,m0⟩:=Kd.R_slice l7.out
   (first|subst m0|(injection m0 with O b4 T;have b5:=O.symm;have b6:=T.symm;clear O b4 T;subst b5;subst b6))
   refine hK.out _ _ ⟨bl_ l 0,bl_ l 1,bl_ F 0,bl_ F 1,bl_ F 2,bl_ F 3⟩ (fun hHeld=> ?_)
   clear hK K
   refine nm_ 50 ?_
   refine pz_ 6 51 9 127 ?_
   refine o1_ 7 none 9 255 (fun K hK=> ?_)
   have m1:g9.cell? ⟨L,0,none⟩=some (.int .i64 0):=bl_ u 0
   have j9:=blk_frozen u.out 0
   have A5:=f0.out;have A6:=k4.out;have A7:=e2.out;have A8:=i6.out;have A9:=b3.out;have B0:=h7.out;have B2:=h8.out;have B7:=d0.out;have C0:=k8.out;have C1:=c9.out
   have m2:g9.cell? ⟨L,1,none⟩=some (.slice none 0 0):=bl_ u 1
   have k0:=blk_frozen u.out 1
   have C2:=f0.out;have C3:=k4.out;have C4:=e2.out;have C5:=i6.out;have C6:=b3.out;have C7:=h7.out;have C8:=h8.out;have C9:=d0.out;have D0:=k8.out;have D1:=c9.out
   refine skip_ (w1:= ?_) (by rfl) rfl ?_ ?_
   rotate_left
   ·go_simp
    rfl
   refine hK.out _ _ ⟨((cell_far (p:=⟨L,_,none⟩) f0.out _).trans (((cell_far (p:=⟨L,_,none⟩) f0.out _).trans (hHeld.1)))),((cell_far (p:=⟨L,_,none⟩) f0.out _).trans (((cell_far (p:=⟨L,_,none⟩) f0.out _).trans (hHeld.2.1)))),((cell_far (p:=⟨L,_,none⟩) b3.out _).trans (((cell_far (p:=⟨L,_,none⟩) b3.out _).trans (hHeld.2.2.1)))),((cell_far (p:=⟨L,_,none⟩) b3.out _).trans (((cell_far (p:=⟨L,_,none⟩) b3.out _).trans (hHeld.2.2.2.1)))),((cell_far (p:=⟨L,_,none⟩) b3.out _).trans (((cell_far (p:=⟨L,_,none⟩) b3.out _).trans (hHeld.2.2.2.2.1)))),((cell_far (p:=⟨L,_,none⟩) b3.out _).trans (((cell_far (p:=⟨L,_,none⟩) b3.out _).trans (hHeld.2.2.2.2.2))))⟩ (fun hHeld=> ?_)
   clear hK K;refine pz_ 8 5 9 511 ?_
   refine done_ (done_of HT_.out (by kernel_rfl)) ?_
   try go_wp2
   refine bodyPost_ret (results_ct rfl _ _ L 29 #[.int .i64 q,.slice l8 i4.length l9] (0,0) _ rfl (qp_ u) Try.underlying29 rfl (by kernel_rfl)) rfl ?_
   exact⟨_,qr_,by(with_reducible repeat(first|apply Kd.R_alloc|apply Kd.R_drewN|apply Kd.R_drew));exact Kd.R_mono (Kd.R_far (p:=⟨L,1,none⟩) (Kd.R_far (p:=⟨L,0,none⟩) (Kd.R_types l7.out u.out (by decide)) (fun _ hk=>hk.2) (.int .i64 q)) (fun _ hk=>hk.2) (.slice l8 i4.length l9)) (fun _ hk=>trivial),qB_⟩
end Go.Proofs.Ytbkklafkoegdpaa.QFnTakes

import Derived.Test.YtbkklafkoegdpaaQFnTakesx0
namespace Go.Proofs.Ytbkklafkoegdpaa.QFnTakes
open Go.RowKit Go.Proofs.YtbkklafkoegdpaaW.PrintWords Go.Proofs.YtbkklafkoegdpaaW.PrintLast Go.Proofs.YtbkklafkoegdpaaW.PrintMore
set_option maxHeartbeats 8000000
set_option maxRecDepth 100000
set_option linter.unusedVariables false
set_option linter.unusedSimpArgs false
def laws_big.f (l0:List Int):Option (Bool):=some (decide ((l0.length:Int)>1048576))
theorem laws_big.calls (a:Option Addr) (c:Nat) (l0:List Int) (r:Bool) (w:World) (hr0:Kd.C (Kd.int .u8) w a l0.length l0) (hc0:l0.length≤c) (h:laws_big.f l0=some r):
  Calls Try.prog 44 #[.slice a l0.length c] w fun e w' =>e= .returned (.bool r)∧Drawn0 w w' :=by
 have d:=am_ hr0
 have i:=am_ hc0
 clear hr0 hc0
 rw[laws_big.f]at h;have H:=h;clear h
 obtain rfl:=oi_ H
 go_enter Try.func44,Try.ntmps44
 go_wp2
 go_ret
 exact⟨by first|rfl|(simp;done)|(simp [*];done),by repeat(first|exact Drawn0.refl _|apply Drawn0.step)⟩
/-- A state of type 130 at block g of W; what its slices lead to came in by j. -/
def IsS130 (w0 W:World) (g:Nat) (f0:List Int) (f1:Int) (f2:Int):Prop:=∃ A0 c0,W.heap[g]? =some (.cells #[.slice A0 f0.length c0,.int .i64 f1,.int .i64 f2] 130 (0,0))∧w0.heap.size≤g∧Kd.C (Kd.int .u8) w0 A0 f0.length f0
theorem IsS130.grown {w0 W:World} {g:Nat} {f0:List Int} {f1:Int} {f2:Int} {W1:World} {row:Option Nat} (h:IsS130 w0 W g f0 f1 f2) (hw:W.grownBy W1 row) (hne:some g≠row):IsS130 w0 W1 g f0 f1 f2:=by
  obtain⟨A0,c0,hb,hg,hr0⟩:=h
  exact⟨A0,c0,blk_grown hb hw hne,hg,hr0⟩
theorem IsS130.own_neN {w0 W:World} {g:Nat} {f0:List Int} {f1:Int} {f2:Int} {α :Type} {d:Kd α} {e:Nat} {base:Nat} {ok:Nat→Prop} {v:Value} {xs:List α} (h:IsS130 w0 W g f0 f1 f2) (ho:Kd.N d e W base ok v xs) (ht:e≠130):some g≠v.ownBlock:=by
  obtain⟨A0,c0,hb,hg,hr0⟩:=h
  exact Kd.N_ne ho hb ht
theorem IsS130.fresh {w0 W:World} {g:Nat} {f0:List Int} {f1:Int} {f2:Int} (h:IsS130 w0 W g f0 f1 f2):∀ k,W.heap.size≤k→k≠g:=by
  obtain⟨A0,c0,hb,hg,hr0⟩:=h
  exact Kd.freshB hb
theorem IsS130.kept {w0 W:World} {g:Nat} {f0:List Int} {f1:Int} {f2:Int} {W1:World} {S:Nat→Prop} (h:IsS130 w0 W g f0 f1 f2) (hk:Kept W W1 S) (hne:¬S g):IsS130 w0 W1 g f0 f1 f2:=by
  obtain⟨A0,c0,hb,hg,hr0⟩:=h
  exact⟨A0,c0,blk_kept hb hk hne,hg,hr0⟩
theorem IsS130.below {w0 W:World} {g:Nat} {f0:List Int} {f1:Int} {f2:Int} {W1:World} (h:IsS130 w0 W g f0 f1 f2) (hw:Below W.heap.size W W1):IsS130 w0 W1 g f0 f1 f2:=h.grown (grown_of_below hw none) (by simp)
theorem IsS130.alloc {w0 W:World} {g:Nat} {f0:List Int} {f1:Int} {f2:Int} (h:IsS130 w0 W g f0 f1 f2) (o:Obj):IsS130 w0 (W.alloc o) g f0 f1 f2:=h.below (below_alloc (Below.refl _ _) o)
theorem IsS130.drewN {w0 W:World} {g:Nat} {f0:List Int} {f1:Int} {f2:Int} (h:IsS130 w0 W g f0 f1 f2) (m:Nat):IsS130 w0 (W.drewN m) g f0 f1 f2:=h
theorem IsS130.drew {w0 W:World} {g:Nat} {f0:List Int} {f1:Int} {f2:Int} (h:IsS130 w0 W g f0 f1 f2):IsS130 w0 W.drew g f0 f1 f2:=h
theorem IsS130.at_ {w0 W:World} {g:Nat} {f0:List Int} {f1:Int} {f2:Int} {w' :World} {m:Nat} (hq:W.drewN m=w') (h:IsS130 w0 W g f0 f1 f2):IsS130 w0 w' g f0 f1 f2:=by subst hq;exact IsS130.drewN h m
theorem IsS130.apart {w0 W:World} {g:Nat} {f0:List Int} {f1:Int} {f2:Int} {α :Type} {d:Kd α} {e:Nat} {base:Nat} {ok:Nat→Prop} {v:Value} {xs:List α} (h:IsS130 w0 W g f0 f1 f2) (ho:d.R e W base ok v xs) (ht:∀ q,q∈e :: d.E→q≠130):d.R e W base (fun k=>ok k∧k≠g) v xs:=by
  obtain⟨A0,c0,hb,hg,hr0⟩:=h
  exact Kd.R_types ho hb ht
theorem IsS130.own_ne {w0 W:World} {g:Nat} {f0:List Int} {f1:Int} {f2:Int} {α :Type} {d:Kd α} {e:Nat} {base:Nat} {ok:Nat→Prop} {v:Value} {xs:List α} (h:IsS130 w0 W g f0 f1 f2) (ho:d.R e W base ok v xs) (ht:e≠130):some g≠v.ownBlock:=by
  obtain⟨A0,c0,hb,hg,hr0⟩:=h
  exact Kd.R_ne ho hb ht
theorem IsS130.apartQ {w0 W:World} {g:Nat} {f0:List Int} {f1:Int} {f2:Int} {α :Type} {d:Kd α} {e:Nat} {base:Nat} {ok:Nat→Prop} {v:Value} {xs:List α} (h:IsS130 w0 W g f0 f1 f2) (ho:d.Q e W base ok v xs) (ht:∀ q,q∈e :: d.E→q≠130):d.Q e W base (fun k=>ok k∧k≠g) v xs:=by
  obtain⟨A0,c0,hb,hg,hr0⟩:=h
  exact Kd.Q_types ho hb ht
theorem IsS130.own_neQ {w0 W:World} {g:Nat} {f0:List Int} {f1:Int} {f2:Int} {α :Type} {d:Kd α} {e:Nat} {base:Nat} {ok:Nat→Prop} {v:Value} {xs:List α} (h:IsS130 w0 W g f0 f1 f2) (ho:d.Q e W base ok v xs) (ht:e≠130):some g≠v.ownBlock:=by
  obtain⟨A0,c0,hb,hg,hr0⟩:=h
  exact Kd.Q_ne ho hb ht
theorem IsS130.apartS {w0 W:World} {g:Nat} {f0:List Int} {f1:Int} {f2:Int} {α :Type} {d:Kd α} {e:Nat} {base:Nat} {ok:Nat→Prop} {v:Value} {xs:List α} (h:IsS130 w0 W g f0 f1 f2) (ho:d.S e W base ok v xs) (ht:∀ q,q∈e :: d.E→q≠130):d.S e W base (fun k=>ok k∧k≠g) v xs:=by
  obtain⟨A0,c0,hb,hg,hr0⟩:=h
  exact Kd.S_types ho hb ht
theorem IsS130.own_neS {w0 W:World} {g:Nat} {f0:List Int} {f1:Int} {f2:Int} {α :Type} {d:Kd α} {e:Nat} {base:Nat} {ok:Nat→Prop} {v:Value} {xs:List α} (h:IsS130 w0 W g f0 f1 f2) (ho:d.S e W base ok v xs) (ht:e≠130):some g≠v.ownBlock:=by
  obtain⟨A0,c0,hb,hg,hr0⟩:=h
  exact Kd.S_ne ho hb ht
theorem IsS130.lt {w0 W:World} {g:Nat} {f0:List Int} {f1:Int} {f2:Int} (h:IsS130 w0 W g f0 f1 f2):g<W.heap.size:=by
  obtain⟨A0,c0,hb,hg,hr0⟩:=h
  exact blk_lt hb
theorem IsS130.ge {w0 W:World} {g:Nat} {f0:List Int} {f1:Int} {f2:Int} (h:IsS130 w0 W g f0 f1 f2):w0.heap.size≤g:=by
  obtain⟨A0,c0,hb,hg,hr0⟩:=h
  exact hg
theorem IsS130.ne_blk {w0 W:World} {g:Nat} {f0:List Int} {f1:Int} {f2:Int} {a:Nat} {cs:Array Value} {t:TypeId} {fr:Nat × Nat} (h:IsS130 w0 W g f0 f1 f2) (hb2:W.heap[a]? =some (.cells cs t fr)) (ht:t≠130):g≠a:=by
  obtain⟨A0,c0,hb,hg,hr0⟩:=h
  rintro rfl
  rw[hb]at hb2
  injection hb2 with hb2
  injection hb2 with _ ht2
  exact ht ht2.symm
theorem IsS130.far {w0 W:World} {g:Nat} {f0:List Int} {f1:Int} {f2:Int} {p:Addr} (h:IsS130 w0 W g f0 f1 f2) (hne:g≠p.block) (u:Value):IsS130 w0 (W.setCell p u) g f0 f1 f2:=by
  obtain⟨A0,c0,hb,hg,hr0⟩:=h
  exact⟨A0,c0,blk_far hb hne u,hg,hr0⟩
theorem cellS130_0 {W:World} {g:Nat} {A0:Option Addr} {c0:Nat} {f0:List Int} {f1:Int} {f2:Int} (h:W.heap[g]? =some (.cells #[.slice A0 f0.length c0,.int .i64 f1,.int .i64 f2] 130 (0,0))):W.cell? ⟨g,0,none⟩=some (.slice A0 f0.length c0):=(blk_cell h 0).trans rfl
theorem cellS130_1 {W:World} {g:Nat} {A0:Option Addr} {c0:Nat} {f0:List Int} {f1:Int} {f2:Int} (h:W.heap[g]? =some (.cells #[.slice A0 f0.length c0,.int .i64 f1,.int .i64 f2] 130 (0,0))):W.cell? ⟨g,1,none⟩=some (.int .i64 f1):=(blk_cell h 1).trans rfl
theorem IsS130.set_1 {w0 W:World} {g:Nat} {f0:List Int} {f1:Int} {f2:Int} (h:IsS130 w0 W g f0 f1 f2) (x:Int):IsS130 w0 (W.setCell ⟨g,1,none⟩ (.int .i64 x)) g f0 x f2:=by
  obtain⟨A0,c0,hb,hg,hr0⟩:=h
  exact⟨A0,c0,by simpa using blk_set hb 1 (.int .i64 x),hg,hr0⟩
theorem cellS130_2 {W:World} {g:Nat} {A0:Option Addr} {c0:Nat} {f0:List Int} {f1:Int} {f2:Int} (h:W.heap[g]? =some (.cells #[.slice A0 f0.length c0,.int .i64 f1,.int .i64 f2] 130 (0,0))):W.cell? ⟨g,2,none⟩=some (.int .i64 f2):=(blk_cell h 2).trans rfl
theorem IsS130.set_2 {w0 W:World} {g:Nat} {f0:List Int} {f1:Int} {f2:Int} (h:IsS130 w0 W g f0 f1 f2) (x:Int):IsS130 w0 (W.setCell ⟨g,2,none⟩ (.int .i64 x)) g f0 f1 x:=by
  obtain⟨A0,c0,hb,hg,hr0⟩:=h
  exact⟨A0,c0,by simpa using blk_set hb 2 (.int .i64 x),hg,hr0⟩
theorem IsS130.new (w0 W:World) (A0:Option Addr) (c0:Nat) (f0:List Int) (f1:Int) (f2:Int) (hB:Below w0.heap.size w0 W) (hr0:Kd.C (Kd.int .u8) w0 A0 f0.length f0):IsS130 w0 (W.alloc (.cells #[.slice A0 f0.length c0,.int .i64 f1,.int .i64 f2] 130)) W.heap.size f0 f1 f2:=⟨A0,c0,by simpa using heap_alloc_new W _,hB.size,hr0⟩
def spec_l01New.l0:Nat→List Int→Int→Int→Option (List Int × Int × Int)
  |0,_,_,_=>none
  |k + 1,x0,x3,x4=>if x4<(x0.length:Int) then (if x4<4000 then (if 0≤x4 then (spec_l01New.l0 k x0 (Go.bits .and .i64 (wrap64 ((wrap64 ((wrap64 (x3 * 131)) + (wrap64 (rd x0 x4)))) + 7)) 1073741823) (wrap64 (x4 + 1))) else (none)) else (some (x0,0,x3))) else (some (x0,0,x3))
def spec_l01New.f (k:Nat) (l0:List Int):Option (List Int × Int × Int):=spec_l01New.l0 k l0 (wrap64 (13501 + (l0.length:Int))) 0
theorem spec_l01New.calls (k:Nat) (l:Option Addr) (m:Nat) (l0:List Int) (n:List Int) (o:Int) (p:Int) (d w:World) (hB:Below d.heap.size d w) (hr0:Kd.C (Kd.int .u8) d l l0.length l0) (hc0:l0.length≤m) (h:spec_l01New.f k l0=some (n,o,p)):
  Calls Try.prog 96 #[.slice l l0.length m] w fun e w' =>∃ g_:Nat,e= .returned (.pointer (some ⟨g_,0,none⟩))∧IsS130 d w' g_ n o p∧Below d.heap.size d w' ∧Below w.heap.size w w' :=by
 have hu130:=Try.underlying130
 have u:=am_ hr0
 have L:=am_ hc0
 clear hr0 hc0
 have HBW:=am_ (Below.refl w.heap.size w)
 have HW0:=am_ hB.size
 have HB:=am_ hB
 clear hB
 have H:(spec_l01New.l0 k l0 (wrap64 (13501 + (l0.length:Int))) 0)=some (n,o,p):=h
 clear h;have H' :=am_ H;clear H
 go_enter Try.func96,Try.ntmps96
 go_wp2
 go_loopg [3,4] k (fun kq v3 v4 w' =>∃ (a:Int) (c:Int),v3= .int .i64 a∧v4= .int .i64 c∧Aside0 (spec_l01New.l0 kq l0 a c=some (n,o,p))∧Aside0 (kq≤k)∧Aside0 (Below d.heap.size d w')∧Aside0 (Below w.heap.size w w'))
 case atStart=>exact⟨(wrap64 (13501 + (l0.length:Int))),(0),qe_,qe_,H',⟨Nat.le_refl _⟩,⟨qB_⟩,⟨by repeat(first|(with_reducible first|exact HBW.out|apply below_alloc|apply pw_below_drewN|apply below_drew1)|exact HBW.out)⟩⟩
 case round=>
  clear H'
  obtain⟨a,c,rfl,rfl,HA,HK1,HB,HBW⟩:=hrel
  cases gk with
  |zero=>exact absurd HA.out (by simp [spec_l01New.l0])
  |succ E=>
   have H:=HA.out;clear HA
   simp only[spec_l01New.l0]at H
   refine ib_ H ?_ ?_<;>clear H<;>intro x H
   ·simp only[Option.some.injEq,Prod.mk.injEq]at H
    obtain⟨rfl,rfl,rfl⟩:=H
    go_wp2_with (first|((with_reducible refine gd_ 31 ?_);refine by_ 31 (cs:= #[.slice l l0.length m,.int .i64 0,.int .i64 a]) (t:=130) ?_;intro q hg M F hb;have G:=am_ ((by rw[hg];exact(below_size (by repeat(first|(with_reducible first|exact HBW.out|apply below_alloc|apply pw_below_drewN|apply below_drew1)|exact HBW.out))):w.heap.size≤q));have y:=am_ ((Nat.le_trans HW0.out (by rw[hg];exact(below_size (by repeat(first|(with_reducible first|exact HBW.out|apply below_alloc|apply pw_below_drewN|apply below_drew1)|exact HBW.out))):w.heap.size≤q):d.heap.size≤q));replace HBW:=am_ (below_step HBW.out hb);replace HB:=hs_ hb;clear hb hg))
    go_ret
    exact⟨_,rfl,(show IsS130 d _ q l0 0 a from⟨_,_,qf_ F,y.out,u.out⟩),qB_,by repeat(first|(with_reducible first|exact HBW.out|apply below_alloc|apply pw_below_drewN|apply below_drew1|refine below_set ?_ G.out)|exact HBW.out)⟩
   refine ib_ H ?_ ?_<;>clear H<;>intro z H
   ·simp only[Option.some.injEq,Prod.mk.injEq]at H
    obtain⟨rfl,rfl,rfl⟩:=H
    go_wp2_with (first|((with_reducible refine gd_ 31 ?_);refine by_ 31 (cs:= #[.slice l l0.length m,.int .i64 0,.int .i64 a]) (t:=130) ?_;intro s hg N I hb;have J:=am_ ((by rw[hg];exact(below_size (by repeat(first|(with_reducible first|exact HBW.out|apply below_alloc|apply pw_below_drewN|apply below_drew1)|exact HBW.out))):w.heap.size≤s));have A:=am_ ((Nat.le_trans HW0.out (by rw[hg];exact(below_size (by repeat(first|(with_reducible first|exact HBW.out|apply below_alloc|apply pw_below_drewN|apply below_drew1)|exact HBW.out))):w.heap.size≤s):d.heap.size≤s));replace HBW:=am_ (below_step HBW.out hb);replace HB:=hs_ hb;clear hb hg))
    go_ret
    exact⟨_,rfl,(show IsS130 d _ s l0 0 a from⟨_,_,qf_ I,A.out,u.out⟩),qB_,by repeat(first|(with_reducible first|exact HBW.out|apply below_alloc|apply pw_below_drewN|apply below_drew1|refine below_set ?_ J.out)|exact HBW.out)⟩
   refine ig_ H ?_;clear H;intro B H
   have H' :=am_ H;clear H
   have g:=dt_ c
   have i:=du_ c l0.length
   obtain⟨v,j,D⟩:=Kd.at_int u.out c (ot_ g) (ot_ i)
   cases j
   replace D:=pw_cell_below HB.out D
   go_wp2
   go_roundg E
   case measure=>have:=HK1.out;omega
   case rel=>exact⟨(Go.bits .and .i64 (wrap64 ((wrap64 ((wrap64 (a * 131)) + (wrap64 (rd l0 c)))) + 7)) 1073741823),(wrap64 (c + 1)),qe_,qe_,H',⟨by have:=HK1.out;omega⟩,⟨qB_⟩,⟨by repeat(first|(with_reducible first|exact HBW.out|apply below_alloc|apply pw_below_drewN|apply below_drew1)|exact HBW.out)⟩⟩
def spec_l01Byte.f (s0_0:List Int) (s0_1:Int) (s0_2:Int):Option (Int × Int × Int):=if s0_1<(s0_0.length:Int) then (if 0≤s0_1 then (some (Go.bits .and .i64 (wrap64 ((Go.bits .and .i64 (Go.bits .xor .i64 ((wrap64 ((wrap64 (s0_2 * 6364136223846793005)) + 1442695040888963407)) / 8589934592) ((wrap64 ((wrap64 (s0_2 * 6364136223846793005)) + 1442695040888963407)) / 35184372088832)) 255) + (wrap64 (rd s0_0 s0_1)))) 255,wrap64 (s0_1 + 1),wrap64 ((wrap64 (s0_2 * 6364136223846793005)) + 1442695040888963407))) else (none)) else (some (Go.bits .and .i64 (Go.bits .xor .i64 ((wrap64 ((wrap64 (s0_2 * 6364136223846793005)) + 1442695040888963407)) / 8589934592) ((wrap64 ((wrap64 (s0_2 * 6364136223846793005)) + 1442695040888963407)) / 35184372088832)) 255,s0_1,wrap64 ((wrap64 (s0_2 * 6364136223846793005)) + 1442695040888963407)))
theorem spec_l01Byte.calls (g:Nat) (s0_0:List Int) (s0_1:Int) (s0_2:Int) (m:Int) (n:Int) (o:Int) (c w:World) (hI:IsS130 c w g s0_0 s0_1 s0_2) (hB:Below c.heap.size c w) (h:spec_l01Byte.f s0_0 s0_1 s0_2=some (m,n,o)):
  Calls Try.prog 132 #[.pointer (some ⟨g,0,none⟩)] w fun e w' =>e= .returned (.int .i64 m)∧IsS130 c w' g s0_0 n o∧Below c.heap.size c w' ∧KeepBut w w' g none:=by
 have HI0:=am_ hI
 have HK:=am_ (KeepBut.refl w g none)
 have HL:=am_ hB.size
 clear hI
 have HW0:=am_ hB.size
 have HB:=am_ hB
 clear hB
 have H:(if s0_1<(s0_0.length:Int) then (if 0≤s0_1 then (some (Go.bits .and .i64 (wrap64 ((Go.bits .and .i64 (Go.bits .xor .i64 ((wrap64 ((wrap64 (s0_2 * 6364136223846793005)) + 1442695040888963407)) / 8589934592) ((wrap64 ((wrap64 (s0_2 * 6364136223846793005)) + 1442695040888963407)) / 35184372088832)) 255) + (wrap64 (rd s0_0 s0_1)))) 255,wrap64 (s0_1 + 1),wrap64 ((wrap64 (s0_2 * 6364136223846793005)) + 1442695040888963407))) else (none)) else (some (Go.bits .and .i64 (Go.bits .xor .i64 ((wrap64 ((wrap64 (s0_2 * 6364136223846793005)) + 1442695040888963407)) / 8589934592) ((wrap64 ((wrap64 (s0_2 * 6364136223846793005)) + 1442695040888963407)) / 35184372088832)) 255,s0_1,wrap64 ((wrap64 (s0_2 * 6364136223846793005)) + 1442695040888963407))))=some (m,n,o):=h
 clear h
 refine ib_ H ?_ ?_<;>clear H<;>intro q H
 ·simp only[Option.some.injEq,Prod.mk.injEq]at H
  obtain⟨rfl,rfl,rfl⟩:=H
  obtain⟨ASz5_0,cSz5_0,HGz5,hgz5,HSz5_0⟩:=HI0.out
  have t:=cellS130_0 HGz5
  have u:=cellS130_1 HGz5
  have v:=cellS130_2 HGz5
  have x:=blk_frozen HGz5 1
  have y:=blk_frozen HGz5 2
  clear HGz5 hgz5
  go_enter Try.func132,Try.ntmps132
  go_wp2
  repeat(go_quiet (fail);try go_wp2)
  go_ret
  exact⟨qr_,qI_,qB_,qK_⟩
 refine ig_ H ?_;clear H;intro s H
 simp only[Option.some.injEq,Prod.mk.injEq]at H
 obtain⟨rfl,rfl,rfl⟩:=H
 obtain⟨ASz4_0,cSz4_0,HGz4,hgz4,HSz4_0⟩:=HI0.out
 have z:=cellS130_0 HGz4
 have A:=cellS130_1 HGz4
 have B:=cellS130_2 HGz4
 have C:=blk_frozen HGz4 1
 have D:=blk_frozen HGz4 2
 clear HGz4 hgz4
 have i:=dt_ s0_1
 have j:=du_ s0_1 s0_0.length
 obtain⟨a,l,d⟩:=Kd.at_int HSz4_0 s0_1 (ot_ i) (ot_ j)
 cases l
 have hn519_0:a.block≠g:=Nat.ne_of_lt (Nat.lt_of_lt_of_le (by have:=World.block_lt_of_cell? _ _ d;first|rwa[add_block]at this|exact this) (IsS130.ge HI0.out))
 replace d:=pw_cell_below HB.out d
 replace d:=(cell_far (p:=⟨g,2,none⟩) (by first|(rw[add_block];exact hn519_0)|(show(Addr.add _ _).block≠_;rw[add_block];exact hn519_0)|exact hn519_0) (.int .i64 (wrap64 ((wrap64 (s0_2 * 6364136223846793005)) + 1442695040888963407)))).trans d
 have hy519_0:=fun (n_:Nat)=>(show(((w.drewN n_).setCell ⟨g,2,none⟩ (.int .i64 (wrap64 ((wrap64 (s0_2 * 6364136223846793005)) + 1442695040888963407))))).cell? _=some _ from d)
 clear hn519_0
 go_enter Try.func132,Try.ntmps132
 go_wp2
 repeat(go_quiet (fail);try go_wp2)
 go_ret
 exact⟨qr_,qI_,qB_,qK_⟩
def spec_l01Below.f (s0_0:List Int) (s0_1:Int) (s0_2:Int) (a1:Int):Option (Int × Int × Int):=if a1≤0 then (some (0,s0_1,s0_2)) else (if a1≤256 then ((spec_l01Byte.f s0_0 s0_1 s0_2).bind fun bt520=>(if a1=0 then (none) else (some (Int.tmod bt520.1 a1,bt520.2.1,bt520.2.2)))) else ((spec_l01Byte.f s0_0 s0_1 s0_2).bind fun bt523=>((spec_l01Byte.f s0_0 bt523.2.1 bt523.2.2).bind fun bt526=>((spec_l01Byte.f s0_0 bt526.2.1 bt526.2.2).bind fun bt529=>((spec_l01Byte.f s0_0 bt529.2.1 bt529.2.2).bind fun bt532=>(if a1=0 then (none) else (some (Int.tmod (wrap64 ((wrap64 ((wrap64 ((wrap64 (bt523.1 * 16777216)) + (wrap64 (bt526.1 * 65536)))) + (wrap64 (bt529.1 * 256)))) + bt532.1)) a1,bt532.2.1,bt532.2.2))))))))
theorem spec_l01Below.calls (g:Nat) (s0_0:List Int) (s0_1:Int) (s0_2:Int) (a:Int) (i:Int) (j:Int) (l:Int) (c w:World) (hI:IsS130 c w g s0_0 s0_1 s0_2) (hB:Below c.heap.size c w) (h:spec_l01Below.f s0_0 s0_1 s0_2 a=some (i,j,l)):
  Calls Try.prog 99 #[.pointer (some ⟨g,0,none⟩),.int .i64 a] w fun e w' =>e= .returned (.int .i64 i)∧IsS130 c w' g s0_0 j l∧Below c.heap.size c w' ∧KeepBut w w' g none:=by
 have HI0:=am_ hI
 have HK:=am_ (KeepBut.refl w g none)
 have HL:=am_ hB.size
 clear hI
 have HW0:=am_ hB.size
 have HB:=am_ hB
 clear hB
 have H:(if a≤0 then (some (0,s0_1,s0_2)) else (if a≤256 then ((spec_l01Byte.f s0_0 s0_1 s0_2).bind fun m=>(if a=0 then (none) else (some (Int.tmod m.1 a,m.2.1,m.2.2)))) else ((spec_l01Byte.f s0_0 s0_1 s0_2).bind fun n=>((spec_l01Byte.f s0_0 n.2.1 n.2.2).bind fun o=>((spec_l01Byte.f s0_0 o.2.1 o.2.2).bind fun p=>((spec_l01Byte.f s0_0 p.2.1 p.2.2).bind fun q=>(if a=0 then (none) else (some (Int.tmod (wrap64 ((wrap64 ((wrap64 ((wrap64 (n.1 * 16777216)) + (wrap64 (o.1 * 65536)))) + (wrap64 (p.1 * 256)))) + q.1)) a,q.2.1,q.2.2)))))))))=some (i,j,l):=h
 clear h
 refine ic_ H ?_ ?_<;>clear H<;>intro x H
 ·simp only[Option.some.injEq,Prod.mk.injEq]at H
  obtain⟨rfl,rfl,rfl⟩:=H
  go_enter Try.func99,Try.ntmps99
  go_wp2
  go_ret
  exact⟨qr_,qI_,qB_,qK_⟩
 refine ic_ H ?_ ?_<;>clear H<;>intro y H
 ·obtain⟨⟨J,L,M⟩,N,H⟩:=bs_ H;dsimp only at H
  refine jc_ H ?_ ?_<;>clear H<;>intro z H
  ·exact absurd H (by simp)
  have A:(a==0)=false:=beq_eq_false_iff_ne.mpr z
  have B:(a != 0)=true:=bne_iff_ne.mpr z
  simp only[Option.some.injEq,Prod.mk.injEq]at H
  obtain⟨rfl,rfl,rfl⟩:=H
  go_enter Try.func99,Try.ntmps99
  go_wp2_with (first|((with_reducible refine gc_ 132 ?_);refine gl_ (some 14) Try.func132 #[.pointer (some ⟨g,0,none⟩)] ?_;(with_reducible refine(spec_l01Byte.calls g s0_0 s0_1 s0_2 J L M c _ ?side1 ?side2 N.out).mono ?_);(case side1=>exact qI_);(case side2=>exact qB_);rintro e a4 ⟨rfl,hi,hb,hk⟩;refine⟨_,rfl,?_⟩;replace HI0:=am_ (hi);replace HK:=am_ (KeepBut.trans (qK_) hk (.inl rfl));replace HB:=am_ (hb);clear hb hk hi))
  go_ret
  exact⟨qr_,qI_,qB_,qK_⟩
 obtain⟨⟨O,C,D⟩,R,H⟩:=bs_ H;dsimp only at H
 obtain⟨⟨T,E,F⟩,U,H⟩:=bs_ H;dsimp only at H
 obtain⟨⟨V,G,I⟩,s,H⟩:=bs_ H;dsimp only at H
 obtain⟨⟨X,Y,Z⟩,t,H⟩:=bs_ H;dsimp only at H
 refine jc_ H ?_ ?_<;>clear H<;>intro d H
 ·exact absurd H (by simp)
 have u:(a==0)=false:=beq_eq_false_iff_ne.mpr d
 have v:(a != 0)=true:=bne_iff_ne.mpr d
 simp only[Option.some.injEq,Prod.mk.injEq]at H
 obtain⟨rfl,rfl,rfl⟩:=H
 go_enter Try.func99,Try.ntmps99
 go_wp2_with (first|((with_reducible refine gc_ 132 ?_);refine gl_ (some 18) Try.func132 #[.pointer (some ⟨g,0,none⟩)] ?_;(with_reducible refine(spec_l01Byte.calls g s0_0 s0_1 s0_2 O C D c _ ?side1 ?side2 R.out).mono ?_);(case side1=>exact qI_);(case side2=>exact qB_);rintro e a0 ⟨rfl,hi,hb,hk⟩;refine⟨_,rfl,?_⟩;replace HI0:=am_ (hi);replace HK:=am_ (KeepBut.trans (qK_) hk (.inl rfl));replace HB:=am_ (hb);clear hb hk hi)|((with_reducible refine gc_ 132 ?_);refine gl_ (some 20) Try.func132 #[.pointer (some ⟨g,0,none⟩)] ?_;(with_reducible refine(spec_l01Byte.calls g s0_0 C D T E F c _ ?side1 ?side2 U.out).mono ?_);(case side1=>exact qI_);(case side2=>exact qB_);rintro e a1 ⟨rfl,hi,hb,hk⟩;refine⟨_,rfl,?_⟩;replace HI0:=am_ (hi);replace HK:=am_ (KeepBut.trans (qK_) hk (.inl rfl));replace HB:=am_ (hb);clear hb hk hi)|((with_reducible refine gc_ 132 ?_);refine gl_ (some 22) Try.func132 #[.pointer (some ⟨g,0,none⟩)] ?_;(with_reducible refine(spec_l01Byte.calls g s0_0 E F V G I c _ ?side1 ?side2 s.out).mono ?_);(case side1=>exact qI_);(case side2=>exact qB_);rintro e a2 ⟨rfl,hi,hb,hk⟩;refine⟨_,rfl,?_⟩;replace HI0:=am_ (hi);replace HK:=am_ (KeepBut.trans (qK_) hk (.inl rfl));replace HB:=am_ (hb);clear hb hk hi)|((with_reducible refine gc_ 132 ?_);refine gl_ (some 24) Try.func132 #[.pointer (some ⟨g,0,none⟩)] ?_;(with_reducible refine(spec_l01Byte.calls g s0_0 G I X Y Z c _ ?side1 ?side2 t.out).mono ?_);(case side1=>exact qI_);(case side2=>exact qB_);rintro e a3 ⟨rfl,hi,hb,hk⟩;refine⟨_,rfl,?_⟩;replace HI0:=am_ (hi);replace HK:=am_ (KeepBut.trans (qK_) hk (.inl rfl));replace HB:=am_ (hb);clear hb hk hi))
 go_ret
 exact⟨qr_,qI_,qB_,qK_⟩
end Go.Proofs.Ytbkklafkoegdpaa.QFnTakes

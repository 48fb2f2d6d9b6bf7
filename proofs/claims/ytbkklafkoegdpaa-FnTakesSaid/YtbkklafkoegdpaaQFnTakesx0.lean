import Derived.Test.YtbkklafkoegdpaaProg
import Derived.Laws.Cover1
import Derived.Below
import Derived.Deep.Draws
import Derived.Deep.AppendLies
import Derived.Maps.AppendAt
import Derived.OwnWalk
import Derived.Laws.BytesArg
import Derived.Laws.MakeOwn
import Derived.Laws.OwnMore
import Derived.Deep.OwnRows
import Derived.Tactics
import Derived.Lib.ConvBytes
import Derived.Laws.Slices
import Derived.WalkKit
import Derived.KernelRfl
import Derived.RowKit3
import Derived.Deep.LoopGhost
import Derived.Deep.QuietTactic
import Derived.BigQuiet
import Derived.WideLaws
import Derived.Deep.DeepCutAuto
import Derived.Deep.CutBlock
import Derived.Deep.RegionHeld3
import Derived.Laws.Rows
import Derived.Lib.AppendStr
import Derived.ArgAppend
import Derived.Laws.IdiomCopy
import Derived.OrdersHeld
import Derived.Laws.BitsLemmas
import Derived.RowKit
import Derived.Test.YtbkklafkoegdpaaVFnTakesWords
import Derived.Test.YtbkklafkoegdpaaVFnTakesLast
import Derived.Test.YtbkklafkoegdpaaVFnTakesTab
import Derived.Test.YtbkklafkoegdpaaVFnTakesApart
import Derived.Test.YtbkklafkoegdpaaVFnTakesFoot
import Derived.Test.YtbkklafkoegdpaaVFnTakesKept
import Derived.Test.YtbkklafkoegdpaaVFnTakesShare
import Derived.Test.YtbkklafkoegdpaaVFnTakesN
import Derived.Test.YtbkklafkoegdpaaVFnTakesAt
import Derived.Test.YtbkklafkoegdpaaVFnTakesEqStruct
import Derived.Test.YtbkklafkoegdpaaVFnTakesRepsOne
import Derived.Test.YtbkklafkoegdpaaVFnTakesInv
import Derived.Test.YtbkklafkoegdpaaVFnTakesGuard
import Derived.Test.YtbkklafkoegdpaaVFnTakesMore
namespace Go.Proofs.Ytbkklafkoegdpaa.QFnTakes
open Go.RowKit Go.Proofs.YtbkklafkoegdpaaW.PrintWords Go.Proofs.YtbkklafkoegdpaaW.PrintLast Go.Proofs.YtbkklafkoegdpaaW.PrintMore
set_option linter.unusedVariables false
set_option linter.unusedSimpArgs false
def errW:Option Int→Value
  |none=> .nilIface
  |some c=> .iface 0 (.int .i64 c)
def ownA (A:Option Addr):Option Nat:=A.map (·.block)
theorem own_slice (A:Option Addr) (n c:Nat):(Value.slice A n c).ownBlock=ownA A:=by cases A<;>rfl
theorem rr_len {α :Type} {R: α →List Value→Prop} {size:Nat} {w:World} {A:Option Addr} {n m:Nat} {ps:List α} (h:n=m) (k:ReadsRow R size w A n ps):ReadsRow R size w A m ps:=h ▸ k
theorem errW_none:errW none= .nilIface:=rfl
theorem errW_some (c:Int):errW (some c)= .iface 0 (.int .i64 c):=rfl
theorem info3:(Try.prog.info? 3).map (fun i=>(i.zero,i.size,i.bytes))=some (some (.int .i64 0),1,8):=by kernel_rfl
theorem info4:(Try.prog.info? 4).map (fun i=>(i.zero,i.size,i.bytes))=some (some (.bool false),1,1):=by kernel_rfl
theorem info43:(Try.prog.info? 43).map (fun i=>(i.zero,i.size,i.bytes))=some (some (.agg #[(.int .i64 0),(.int .i64 0)]),2,16):=by kernel_rfl
theorem info51:(Try.prog.info? 51).map (fun i=>(i.zero,i.size,i.bytes))=some (some (.slice none 0 0),1,24):=by kernel_rfl
theorem info72:(Try.prog.info? 72).map (fun i=>(i.zero,i.size,i.bytes))=some (some (.agg #[(.int .i64 0),(.int .i64 0),(.int .i64 0),(.bool false)]),4,32):=by kernel_rfl
-- the values' own types
/-! #### struct type 43 -/
structure S43 where
  f0:Int
  f1:Int
def z43:S43:=⟨(0:Int),(0:Int)⟩
def k43:Kd S43:=Kd.iso (Kd.pair (Kd.int .i64) (Kd.int .i64)) (fun x:S43=>(x.f0,x.f1))
theorem k43_heap:Kd.Heap k43:=Kd.heap_iso _ (Kd.heap_pair (Kd.heap_int .i64) (Kd.heap_int .i64))
theorem k43_open {w:World} {x:S43} {cs:List Value} (h:k43.K w x cs):cs=[.int .i64 x.f0,.int .i64 x.f1]:=by
  obtain⟨_,_,rfl,rfl,rfl⟩:=h
  exact rfl
theorem k43_openM {w:World} {base:Nat} {ok:Nat→Prop} {x:S43} {cs:List Value} (h:k43.M w base ok x cs):cs=[.int .i64 x.f0,.int .i64 x.f1]:=by
  obtain⟨_,_,rfl,rfl,rfl⟩:=h
  exact rfl
theorem k43_mk (w:World) (x:S43)  :k43.K w x [.int .i64 x.f0,.int .i64 x.f1]:=⟨[.int .i64 x.f0],[.int .i64 x.f1],rfl,rfl,rfl⟩
theorem k43_mkM (w:World) (base:Nat) (ok:Nat→Prop) (x:S43)  :k43.M w base ok x [.int .i64 x.f0,.int .i64 x.f1]:=⟨[.int .i64 x.f0],[.int .i64 x.f1],rfl,rfl,rfl⟩
def rd_T43 (xs:List S43) (i:Int):S43:=xs.getD i.toNat z43
theorem at_T43 {w:World} {A:Option Addr} {n:Nat} {xs:List S43} (h:Kd.C k43 w A n xs) (i:Int) (h0:0≤i) (h1:i<n):∃ ad,A=some ad∧w.cell? (ad.add (i.toNat * 2))=some (.int .i64 (rd_T43 xs i).f0)∧w.cell? ⟨(ad.add (i.toNat * 2)).block,(ad.add (i.toNat * 2)).off + 1,none⟩=some (.int .i64 (rd_T43 xs i).f1):=by
  obtain⟨ad,c,e,_,hK,hc0⟩:=Kd.C_get h z43 i h0 h1
  have hc:∀ j u,c[j]? =some u→w.cell? (ad.add (i.toNat * 2 + j))=some u:=hc0
  obtain rfl:=k43_open hK
  exact⟨ad,e,hc 0 _ rfl,by rw[←add_field _ _ 1 (by omega)];exact hc 1 _ rfl⟩
/-! #### struct type 72 -/
structure S72 where
  f0:Int
  f1:Int
  f2:Int
  f3:Bool
def z72:S72:=⟨(0:Int),(0:Int),(0:Int),false⟩
def k72:Kd S72:=Kd.iso (Kd.pair (Kd.int .i64) (Kd.pair (Kd.int .i64) (Kd.pair (Kd.int .i64) Kd.bool))) (fun x:S72=>(x.f0,x.f1,x.f2,x.f3))
theorem k72_heap:Kd.Heap k72:=Kd.heap_iso _ (Kd.heap_pair (Kd.heap_int .i64) (Kd.heap_pair (Kd.heap_int .i64) (Kd.heap_pair (Kd.heap_int .i64) Kd.heap_bool)))
theorem k72_open {w:World} {x:S72} {cs:List Value} (h:k72.K w x cs):cs=[.int .i64 x.f0,.int .i64 x.f1,.int .i64 x.f2,.bool x.f3]:=by
  obtain⟨_,_,rfl,rfl,⟨_,_,rfl,rfl,⟨_,_,rfl,rfl,rfl⟩⟩⟩:=h
  exact rfl
theorem k72_openM {w:World} {base:Nat} {ok:Nat→Prop} {x:S72} {cs:List Value} (h:k72.M w base ok x cs):cs=[.int .i64 x.f0,.int .i64 x.f1,.int .i64 x.f2,.bool x.f3]:=by
  obtain⟨_,_,rfl,rfl,⟨_,_,rfl,rfl,⟨_,_,rfl,rfl,rfl⟩⟩⟩:=h
  exact rfl
theorem k72_mk (w:World) (x:S72)  :k72.K w x [.int .i64 x.f0,.int .i64 x.f1,.int .i64 x.f2,.bool x.f3]:=⟨[.int .i64 x.f0],[.int .i64 x.f1,.int .i64 x.f2,.bool x.f3],rfl,rfl,⟨[.int .i64 x.f1],[.int .i64 x.f2,.bool x.f3],rfl,rfl,⟨[.int .i64 x.f2],[.bool x.f3],rfl,rfl,rfl⟩⟩⟩
theorem k72_mkM (w:World) (base:Nat) (ok:Nat→Prop) (x:S72)  :k72.M w base ok x [.int .i64 x.f0,.int .i64 x.f1,.int .i64 x.f2,.bool x.f3]:=⟨[.int .i64 x.f0],[.int .i64 x.f1,.int .i64 x.f2,.bool x.f3],rfl,rfl,⟨[.int .i64 x.f1],[.int .i64 x.f2,.bool x.f3],rfl,rfl,⟨[.int .i64 x.f2],[.bool x.f3],rfl,rfl,rfl⟩⟩⟩
def rd_T72 (xs:List S72) (i:Int):S72:=xs.getD i.toNat z72
theorem at_T72 {w:World} {A:Option Addr} {n:Nat} {xs:List S72} (h:Kd.C k72 w A n xs) (i:Int) (h0:0≤i) (h1:i<n):∃ ad,A=some ad∧w.cell? (ad.add (i.toNat * 4))=some (.int .i64 (rd_T72 xs i).f0)∧w.cell? ⟨(ad.add (i.toNat * 4)).block,(ad.add (i.toNat * 4)).off + 1,none⟩=some (.int .i64 (rd_T72 xs i).f1)∧w.cell? ⟨(ad.add (i.toNat * 4)).block,(ad.add (i.toNat * 4)).off + 2,none⟩=some (.int .i64 (rd_T72 xs i).f2)∧w.cell? ⟨(ad.add (i.toNat * 4)).block,(ad.add (i.toNat * 4)).off + 3,none⟩=some (.bool (rd_T72 xs i).f3):=by
  obtain⟨ad,c,e,_,hK,hc0⟩:=Kd.C_get h z72 i h0 h1
  have hc:∀ j u,c[j]? =some u→w.cell? (ad.add (i.toNat * 4 + j))=some u:=hc0
  obtain rfl:=k72_open hK
  exact⟨ad,e,hc 0 _ rfl,by rw[←add_field _ _ 1 (by omega)];exact hc 1 _ rfl,by rw[←add_field _ _ 2 (by omega)];exact hc 2 _ rfl,by rw[←add_field _ _ 3 (by omega)];exact hc 3 _ rfl⟩
def rd_L4 (xs:List (List Int)) (i:Int):(List Int):=xs.getD i.toNat ([]:List Int)
theorem at_L4 {w:World} {A:Option Addr} {n:Nat} {xs:List (List Int)} (h:Kd.C (Kd.slice 3 (Kd.int .i64)) w A n xs) (i:Int) (h0:0≤i) (h1:i<n):∃ ad A0 c0,A=some ad∧w.cell? (ad.add i.toNat)=some (.slice A0 (rd_L4 xs i).length c0)∧(rd_L4 xs i).length≤c0∧(Kd.int .i64).C w A0 (rd_L4 xs i).length (rd_L4 xs i):=by
  obtain⟨ad,c,e,_,hK,hc0⟩:=Kd.C_get h ([]:List Int) i h0 h1
  have hc:∀ j u,c[j]? =some u→w.cell? (ad.add (i.toNat * 1 + j))=some u:=hc0
  obtain⟨A0,c0,rfl,l0,g0⟩:=hK
  exact⟨ad,A0,c0,e,by have hq:=hc 0 _ rfl;rwa[Nat.mul_one,Nat.add_zero]at hq,l0,g0⟩
theorem qI_ {p:Prop} (h:p:=by repeat(first|(with_reducible first|exact HI0.out|apply IsS130.alloc|apply IsS130.drewN|apply IsS130.drew|apply IsS130.set_1|apply IsS130.set_2|apply IsS130.far (hne:=Aside0.out (by assumption)))|exact HI0.out)):p:=h
theorem qJ_ {p:Prop} (h:p:=by repeat(first|(with_reducible first|exact HI682.out|apply IsS130.alloc|apply IsS130.drewN|apply IsS130.drew|apply IsS130.set_1|apply IsS130.set_2|apply IsS130.far (hne:=Aside0.out (by assumption)))|exact HI682.out)):p:=h
theorem kl_ {w W:World} {g n:Nat} {row:Option Nat} (_:Aside0 (KeepBut w W g row)) (h:Aside0 (w.heap.size≤n)):w.heap.size≤n:=h.out
theorem qK_ {p:Prop} (h:p:=by repeat(first|(with_reducible first|exact HK.out|apply KeepBut.set_|apply keep_drewN|apply keep_drew|apply keep_alloc|refine keep_far ?_ (kl_ HK (by assumption)) _|apply Kept.alloc|apply Kept.drewN|apply Kept.drew|refine Kept.setCell ?_ (.inr (Aside0.out (by assumption))) _)|exact HK.out)):p:=h
theorem qB_ {p:Prop} (h:p:=by repeat(first|(with_reducible first|exact HB.out|apply below_alloc|apply pw_below_drewN|apply below_drew1|refine below_set ?_ (Aside0.out (by assumption))|refine below_set ?_ (IsS130.ge HI0.out)|refine below_set ?_ (IsS130.ge HI682.out))|exact HB.out)):p:=h
theorem qs_ {p:Prop} (h:p:=by rw[hg];exact(below_size qB_)):p:=h
theorem qk_ {p q:Prop} (h:Aside0 p) (f:p→q:=by intro h_;(with_reducible repeat(first|refine blk_drewN ?_ _|refine blk_drew ?_|refine blk_alloc ?_ _));exact h_):q:=f h.out
theorem qR_ {p q:Prop} (h:Aside0 p) (f:p→q:=by intro h_;(with_reducible repeat(first|apply Kd.R_alloc|apply Kd.R_drewN|apply Kd.R_drew));exact h_):q:=f h.out
theorem qS_ {p q:Prop} (h:Aside0 p) (f:p→q:=by intro h_;(with_reducible repeat(first|apply Kd.S_alloc|apply Kd.S_drewN|apply Kd.S_drew));exact h_):q:=f h.out
theorem bne_nil_ (l:List UInt8):(l != [])= !l.isEmpty:=by cases l<;>rfl
theorem qe_ {p:Prop} (h:p:=by first|rfl|(simp;done)|(simp [*];done)|(simp [bne_nil_];done)|(simp [*,bne_nil_];done)):p:=h
theorem qr_ {p:Prop} (h:p:=by first|rfl|(simp [errW_none,errW_some]<;>rfl)|(simp [*,errW_none,errW_some]<;>rfl)):p:=h
theorem qa_ {p:Prop} (h:p:=by first|(with_reducible assumption)|assumption):p:=h
theorem qo_ {p:Prop} (h:p:=by first|omega|exact Nat.le_refl _):p:=h
theorem qC_ {p q r:Prop} (h:Aside0 p) (b:Aside0 r) (f:p→r→q:=by intro h_ b_;repeat(first|exact(Kd.C_below h_ b_)|(with_reducible refine Kd.C_alloc ?_ _)|(with_reducible refine Kd.C_drewN ?_ _)|(with_reducible refine Kd.C_drew ?_))):q:=f h.out b.out
theorem qD_ {p q:Prop} (h:p) (f:p→q:=by intro h_;repeat(first|exact h_|(with_reducible refine Kd.C_alloc ?_ _)|(with_reducible refine Kd.C_drewN ?_ _)|(with_reducible refine Kd.C_drew ?_))):q:=f h
theorem bc2_ {w:World} {g:Nat} {t:TypeId} {a0 a1:Value} (h:Aside0 (w.heap[g]? =some (.cells #[a0,a1] t (0,0)))):w.cell? ⟨g,0,none⟩=some a0∧w.cell? ⟨g,1,none⟩=some a1∧w.frozen? ⟨g,0,none⟩=false∧w.frozen? ⟨g,1,none⟩=false:=⟨(blk_cell h.out 0).trans rfl,(blk_cell h.out 1).trans rfl,blk_frozen h.out 0,blk_frozen h.out 1⟩
theorem bc4_ {w:World} {g:Nat} {t:TypeId} {a0 a1 a2 a3:Value} (h:Aside0 (w.heap[g]? =some (.cells #[a0,a1,a2,a3] t (0,0)))):w.cell? ⟨g,0,none⟩=some a0∧w.cell? ⟨g,1,none⟩=some a1∧w.cell? ⟨g,2,none⟩=some a2∧w.cell? ⟨g,3,none⟩=some a3∧w.frozen? ⟨g,0,none⟩=false∧w.frozen? ⟨g,1,none⟩=false∧w.frozen? ⟨g,2,none⟩=false∧w.frozen? ⟨g,3,none⟩=false:=⟨(blk_cell h.out 0).trans rfl,(blk_cell h.out 1).trans rfl,(blk_cell h.out 2).trans rfl,(blk_cell h.out 3).trans rfl,blk_frozen h.out 0,blk_frozen h.out 1,blk_frozen h.out 2,blk_frozen h.out 3⟩
def bmL:Nat→Nat→List Bool
  |0,_=>[]
  |n + 1,m=>(m % 2==1) :: bmL n (m / 2)
def bm (n m:Nat):Array Bool:=⟨bmL n m⟩
section
variable {P:Program} {ops:Array Oper} {rest:List Oper} {a:Act} {Q:Exit→Act→World→Prop} {md:Region.Mode} {S:World→Prop} {ds:List Nat}
theorem pz_ (i:Nat) (n:Tmp) {oi:Oper} {v:Value} {fuel:Nat} {l:Array Bool} {w:World} (n_ m_:Nat) {a' :Act} (h:wpAnyLast P md ops Q S ds fuel (bm n_ m_) a' w) (hi:ops[i]? =some oi:=by exact rfl) (hN:oi.dst=some n:=by exact rfl) (hc:anyB md ops l (bm n_ m_) i=true:=by exact any_of HT_.out (by kernel_rfl)) (hQ:∀ c a w,Q (.panic c) (a.put oi.dst v) w→Q (.panic c) a w:=by exact fun _ _ _ h=>h)
    (hy:Yields P ops oi v a:=by exact Or.inl ⟨by rfl,by intro w';go_simp;with_reducible rfl⟩) (ha:a.put (some n) v=a' :=by simp only[Act.put,List.setIfInBounds_toArray,List.set_cons_zero,List.set_cons_succ,i64_w,i32_w];rfl):wpAnyLast P md ops Q S ds (fuel + 1) l a w:=pure_ (i:=i) (bm n_ m_) hi hN hc hQ hy ha h
theorem tz2_ (i:Nat) (n:Tmp) {oi:Oper} {v:Value} {fuel:Nat} {l:Array Bool} {w:World} (n_ m_:Nat) {a' :Act} (h:wpAnyLast P md ops Q S ds fuel (bm n_ m_) a' w) (hi:ops[i]? =some oi:=by exact rfl) (hN:oi.dst=some n:=by exact rfl) (hc:takeB md ops ds l (bm n_ m_) i=true:=by exact take_ofW HT_.out HW_.out (by kernel_rfl)) (hQ:∀ c a w,Q (.panic c) (a.put oi.dst v) w→Q (.panic c) a w:=by exact fun _ _ _ h=>h)
    (hy:YieldsIf P ops S oi v a:=by exact Or.inl ⟨by rfl,by rintro w' ⟨s0,s1⟩;go_simp;with_reducible rfl⟩) (hS:S w:=by exact hHeld) (ha:a.put (some n) v=a' :=by simp only[Act.put,List.setIfInBounds_toArray,List.set_cons_zero,List.set_cons_succ,i64_w,i32_w];rfl):wpAnyLast P md ops Q S ds (fuel + 1) l a w:=take_ (i:=i) (bm n_ m_) hi hN hc hQ hy hS ha h
theorem tz3_ (i:Nat) (n:Tmp) {oi:Oper} {v:Value} {fuel:Nat} {l:Array Bool} {w:World} (n_ m_:Nat) {a' :Act} (h:wpAnyLast P md ops Q S ds fuel (bm n_ m_) a' w) (hi:ops[i]? =some oi:=by exact rfl) (hN:oi.dst=some n:=by exact rfl) (hc:takeB md ops ds l (bm n_ m_) i=true:=by exact take_ofW HT_.out HW_.out (by kernel_rfl)) (hQ:∀ c a w,Q (.panic c) (a.put oi.dst v) w→Q (.panic c) a w:=by exact fun _ _ _ h=>h)
    (hy:YieldsIf P ops S oi v a:=by exact Or.inl ⟨by rfl,by rintro w' ⟨s0,s1,s2⟩;go_simp;with_reducible rfl⟩) (hS:S w:=by exact hHeld) (ha:a.put (some n) v=a' :=by simp only[Act.put,List.setIfInBounds_toArray,List.set_cons_zero,List.set_cons_succ,i64_w,i32_w];rfl):wpAnyLast P md ops Q S ds (fuel + 1) l a w:=take_ (i:=i) (bm n_ m_) hi hN hc hQ hy hS ha h
theorem tz4_ (i:Nat) (n:Tmp) {oi:Oper} {v:Value} {fuel:Nat} {l:Array Bool} {w:World} (n_ m_:Nat) {a' :Act} (h:wpAnyLast P md ops Q S ds fuel (bm n_ m_) a' w) (hi:ops[i]? =some oi:=by exact rfl) (hN:oi.dst=some n:=by exact rfl) (hc:takeB md ops ds l (bm n_ m_) i=true:=by exact take_ofW HT_.out HW_.out (by kernel_rfl)) (hQ:∀ c a w,Q (.panic c) (a.put oi.dst v) w→Q (.panic c) a w:=by exact fun _ _ _ h=>h)
    (hy:YieldsIf P ops S oi v a:=by exact Or.inl ⟨by rfl,by rintro w' ⟨s0,s1,s2,s3⟩;go_simp;with_reducible rfl⟩) (hS:S w:=by exact hHeld) (ha:a.put (some n) v=a' :=by simp only[Act.put,List.setIfInBounds_toArray,List.set_cons_zero,List.set_cons_succ,i64_w,i32_w];rfl):wpAnyLast P md ops Q S ds (fuel + 1) l a w:=take_ (i:=i) (bm n_ m_) hi hN hc hQ hy hS ha h
theorem tz5_ (i:Nat) (n:Tmp) {oi:Oper} {v:Value} {fuel:Nat} {l:Array Bool} {w:World} (n_ m_:Nat) {a' :Act} (h:wpAnyLast P md ops Q S ds fuel (bm n_ m_) a' w) (hi:ops[i]? =some oi:=by exact rfl) (hN:oi.dst=some n:=by exact rfl) (hc:takeB md ops ds l (bm n_ m_) i=true:=by exact take_ofW HT_.out HW_.out (by kernel_rfl)) (hQ:∀ c a w,Q (.panic c) (a.put oi.dst v) w→Q (.panic c) a w:=by exact fun _ _ _ h=>h)
    (hy:YieldsIf P ops S oi v a:=by exact Or.inl ⟨by rfl,by rintro w' ⟨s0,s1,s2,s3,s4⟩;go_simp;with_reducible rfl⟩) (hS:S w:=by exact hHeld) (ha:a.put (some n) v=a' :=by simp only[Act.put,List.setIfInBounds_toArray,List.set_cons_zero,List.set_cons_succ,i64_w,i32_w];rfl):wpAnyLast P md ops Q S ds (fuel + 1) l a w:=take_ (i:=i) (bm n_ m_) hi hN hc hQ hy hS ha h
theorem tz6_ (i:Nat) (n:Tmp) {oi:Oper} {v:Value} {fuel:Nat} {l:Array Bool} {w:World} (n_ m_:Nat) {a' :Act} (h:wpAnyLast P md ops Q S ds fuel (bm n_ m_) a' w) (hi:ops[i]? =some oi:=by exact rfl) (hN:oi.dst=some n:=by exact rfl) (hc:takeB md ops ds l (bm n_ m_) i=true:=by exact take_ofW HT_.out HW_.out (by kernel_rfl)) (hQ:∀ c a w,Q (.panic c) (a.put oi.dst v) w→Q (.panic c) a w:=by exact fun _ _ _ h=>h)
    (hy:YieldsIf P ops S oi v a:=by exact Or.inl ⟨by rfl,by rintro w' ⟨s0,s1,s2,s3,s4,s5⟩;go_simp;with_reducible rfl⟩) (hS:S w:=by exact hHeld) (ha:a.put (some n) v=a' :=by simp only[Act.put,List.setIfInBounds_toArray,List.set_cons_zero,List.set_cons_succ,i64_w,i32_w];rfl):wpAnyLast P md ops Q S ds (fuel + 1) l a w:=take_ (i:=i) (bm n_ m_) hi hN hc hQ hy hS ha h
theorem tz8_ (i:Nat) (n:Tmp) {oi:Oper} {v:Value} {fuel:Nat} {l:Array Bool} {w:World} (n_ m_:Nat) {a' :Act} (h:wpAnyLast P md ops Q S ds fuel (bm n_ m_) a' w) (hi:ops[i]? =some oi:=by exact rfl) (hN:oi.dst=some n:=by exact rfl) (hc:takeB md ops ds l (bm n_ m_) i=true:=by exact take_ofW HT_.out HW_.out (by kernel_rfl)) (hQ:∀ c a w,Q (.panic c) (a.put oi.dst v) w→Q (.panic c) a w:=by exact fun _ _ _ h=>h)
    (hy:YieldsIf P ops S oi v a:=by exact Or.inl ⟨by rfl,by rintro w' ⟨s0,s1,s2,s3,s4,s5,s6,s7⟩;go_simp;with_reducible rfl⟩) (hS:S w:=by exact hHeld) (ha:a.put (some n) v=a' :=by simp only[Act.put,List.setIfInBounds_toArray,List.set_cons_zero,List.set_cons_succ,i64_w,i32_w];rfl):wpAnyLast P md ops Q S ds (fuel + 1) l a w:=take_ (i:=i) (bm n_ m_) hi hN hc hQ hy hS ha h
theorem tz10_ (i:Nat) (n:Tmp) {oi:Oper} {v:Value} {fuel:Nat} {l:Array Bool} {w:World} (l' :Array Bool) {a' :Act} (h:wpAnyLast P md ops Q S ds fuel l' a' w) (hi:ops[i]? =some oi:=by exact rfl) (hN:oi.dst=some n:=by exact rfl) (hc:takeB md ops ds l l' i=true:=by exact take_ofW HT_.out HW_.out (by kernel_rfl)) (hQ:∀ c a w,Q (.panic c) (a.put oi.dst v) w→Q (.panic c) a w:=by exact fun _ _ _ h=>h)
    (hy:YieldsIf P ops S oi v a:=by exact Or.inl ⟨by rfl,by rintro w' ⟨s0,s1,s2,s3,s4,s5,s6,s7,s8,s9⟩;go_simp;with_reducible rfl⟩) (hS:S w:=by exact hHeld) (ha:a.put (some n) v=a' :=by simp only[Act.put,List.setIfInBounds_toArray,List.set_cons_zero,List.set_cons_succ,i64_w,i32_w];rfl):wpAnyLast P md ops Q S ds (fuel + 1) l a w:=take_ (i:=i) l' hi hN hc hQ hy hS ha h
theorem tz12_ (i:Nat) (n:Tmp) {oi:Oper} {v:Value} {fuel:Nat} {l:Array Bool} {w:World} (l' :Array Bool) {a' :Act} (h:wpAnyLast P md ops Q S ds fuel l' a' w) (hi:ops[i]? =some oi:=by exact rfl) (hN:oi.dst=some n:=by exact rfl) (hc:takeB md ops ds l l' i=true:=by exact take_ofW HT_.out HW_.out (by kernel_rfl)) (hQ:∀ c a w,Q (.panic c) (a.put oi.dst v) w→Q (.panic c) a w:=by exact fun _ _ _ h=>h)
    (hy:YieldsIf P ops S oi v a:=by exact Or.inl ⟨by rfl,by rintro w' ⟨s0,s1,s2,s3,s4,s5,s6,s7,s8,s9,s10,s11⟩;go_simp;with_reducible rfl⟩) (hS:S w:=by exact hHeld) (ha:a.put (some n) v=a' :=by simp only[Act.put,List.setIfInBounds_toArray,List.set_cons_zero,List.set_cons_succ,i64_w,i32_w];rfl):wpAnyLast P md ops Q S ds (fuel + 1) l a w:=take_ (i:=i) l' hi hN hc hQ hy hS ha h
theorem tz16_ (i:Nat) (n:Tmp) {oi:Oper} {v:Value} {fuel:Nat} {l:Array Bool} {w:World} (l' :Array Bool) {a' :Act} (h:wpAnyLast P md ops Q S ds fuel l' a' w) (hi:ops[i]? =some oi:=by exact rfl) (hN:oi.dst=some n:=by exact rfl) (hc:takeB md ops ds l l' i=true:=by exact take_ofW HT_.out HW_.out (by kernel_rfl)) (hQ:∀ c a w,Q (.panic c) (a.put oi.dst v) w→Q (.panic c) a w:=by exact fun _ _ _ h=>h)
    (hy:YieldsIf P ops S oi v a:=by exact Or.inl ⟨by rfl,by rintro w' ⟨s0,s1,s2,s3,s4,s5,s6,s7,s8,s9,s10,s11,s12,s13,s14,s15⟩;go_simp;with_reducible rfl⟩) (hS:S w:=by exact hHeld) (ha:a.put (some n) v=a' :=by simp only[Act.put,List.setIfInBounds_toArray,List.set_cons_zero,List.set_cons_succ,i64_w,i32_w];rfl):wpAnyLast P md ops Q S ds (fuel + 1) l a w:=take_ (i:=i) l' hi hN hc hQ hy hS ha h
theorem tz20_ (i:Nat) (n:Tmp) {oi:Oper} {v:Value} {fuel:Nat} {l:Array Bool} {w:World} (l' :Array Bool) {a' :Act} (h:wpAnyLast P md ops Q S ds fuel l' a' w) (hi:ops[i]? =some oi:=by exact rfl) (hN:oi.dst=some n:=by exact rfl) (hc:takeB md ops ds l l' i=true:=by exact take_ofW HT_.out HW_.out (by kernel_rfl)) (hQ:∀ c a w,Q (.panic c) (a.put oi.dst v) w→Q (.panic c) a w:=by exact fun _ _ _ h=>h)
    (hy:YieldsIf P ops S oi v a:=by exact Or.inl ⟨by rfl,by rintro w' ⟨s0,s1,s2,s3,s4,s5,s6,s7,s8,s9,s10,s11,s12,s13,s14,s15,s16,s17,s18,s19⟩;go_simp;with_reducible rfl⟩) (hS:S w:=by exact hHeld) (ha:a.put (some n) v=a' :=by simp only[Act.put,List.setIfInBounds_toArray,List.set_cons_zero,List.set_cons_succ,i64_w,i32_w];rfl):wpAnyLast P md ops Q S ds (fuel + 1) l a w:=take_ (i:=i) l' hi hN hc hQ hy hS ha h
theorem tz28_ (i:Nat) (n:Tmp) {oi:Oper} {v:Value} {fuel:Nat} {l:Array Bool} {w:World} (l' :Array Bool) {a' :Act} (h:wpAnyLast P md ops Q S ds fuel l' a' w) (hi:ops[i]? =some oi:=by exact rfl) (hN:oi.dst=some n:=by exact rfl) (hc:takeB md ops ds l l' i=true:=by exact take_ofW HT_.out HW_.out (by kernel_rfl)) (hQ:∀ c a w,Q (.panic c) (a.put oi.dst v) w→Q (.panic c) a w:=by exact fun _ _ _ h=>h)
    (hy:YieldsIf P ops S oi v a:=by exact Or.inl ⟨by rfl,by rintro w' ⟨s0,s1,s2,s3,s4,s5,s6,s7,s8,s9,s10,s11,s12,s13,s14,s15,s16,s17,s18,s19,s20,s21,s22,s23,s24,s25,s26,s27⟩;go_simp;with_reducible rfl⟩) (hS:S w:=by exact hHeld) (ha:a.put (some n) v=a' :=by simp only[Act.put,List.setIfInBounds_toArray,List.set_cons_zero,List.set_cons_succ,i64_w,i32_w];rfl):wpAnyLast P md ops Q S ds (fuel + 1) l a w:=take_ (i:=i) l' hi hN hc hQ hy hS ha h
theorem bx_ {o:Oper} {W:World} (N:Tmp) {cs:Array Value} {t:TypeId} (h:∀ g,g=W.heap.size→∀ w1,w1.heap[g]? =some (.cells cs t (0,0))→Below W.heap.size W w1→wpList P ops Q rest (a.put o.dst (.pointer (some ⟨g,0,none⟩))) w1) (hd:o.dst=some N:=by rfl) (hgd:o.guard=none:=by rfl)
    (hrun:(execOp a.eval o).run P W= .ok (.value (.pointer (some ⟨W.heap.size,0,none⟩))) (W.alloc (.cells cs t (0,0))):=by first|(go_simp;done)|(go_simp;rfl)):wpList P ops Q (o :: rest) a W:=box_event hgd hd hrun h
theorem gl_ {oi : Oper} {w : World} (N : Option Tmp) {f : FuncId} {fn : Func} {oas : Array Operand} {ts : Array TypeId} (hf : P.funcs[f]? = some fn) (args : Array Value) (h : Calls P f args w fun e w' => ∃ v, e = .returned v ∧ wpList P ops Q rest (a.put N v) w') (hd : oi.dst = N := by rfl) (hg : oi.guard = none := by rfl) (hname : (fn.name == "runtime.NumGoroutine") = false := by kernel_rfl) (hb : fn.body.isSome = true := by rfl)
    (hop:oi.op= .call { callee:= .value (.func f),args:=oas,argTypes:=ts }:=by rfl) (hargs:oas.map a.eval=args:=by(try simp only[List.map_toArray,List.map_cons,List.map_nil]);first|done|rfl|(simp only[List.length_drop,List.length_take];rfl)):wpList P ops Q (oi :: rest) a w:=goesL_ N hd hg hf hname hb args hop hargs h
end
theorem am_ {p:Prop} (h:p):Aside0 p:=⟨h⟩
theorem sA_ {α :Type} (l:List α) (i:Nat) (a: α):l.toArray.setIfInBounds i a=(l.set i a).toArray:=List.setIfInBounds_toArray l i a
theorem sB_ {α :Type} (l:List α) (x a: α):(x :: l).set 0 a=a :: l:=rfl
theorem sC_ {α :Type} (l:List α) (x a: α) (n:Nat):(x :: l).set (n + 1) a=x :: l.set n a:=rfl
theorem bf_ {w:World} {g:Nat} {t:TypeId} {cs:Array Value} {b o:Nat} {r:Option Nat} (h:w.heap[g]? =some (.cells cs t (0,0))) (hp:Aside0 (g≠b)) (u:Value):(w.setCell ⟨b,o,r⟩ u).heap[g]? =some (.cells cs t (0,0)):=blk_far h hp.out u
theorem qf_ {p q:Prop} (h:Aside0 p) (f:p→q:=by intro h_;(with_reducible repeat(first|refine blk_drewN ?_ _|refine blk_drew ?_|refine blk_alloc ?_ _|refine bf_ ?_ (by assumption) _));exact h_):q:=f h.out
theorem qn_ {w0 w:World} {g g' :Nat} {o:Obj} (h:Aside0 (w0.heap[g]? =some o)) (hg:g' =w.heap.size) (f:w0.heap[g]? =some o→w.heap[g]? =some o:=by intro h_;(with_reducible repeat(first|refine blk_drewN ?_ _|refine blk_drew ?_|refine blk_alloc ?_ _|refine bf_ ?_ (by assumption) _));exact h_):Aside0 (g≠g')∧Aside0 (g' ≠g):=by
  subst hg
  exact⟨⟨Nat.ne_of_lt (blk_lt (f h.out))⟩,⟨Nat.ne_of_gt (blk_lt (f h.out))⟩⟩
theorem qbl_ {w0 w w1:World} {g:Nat} {o:Obj} (h:Aside0 (w0.heap[g]? =some o)) (hb:Below w.heap.size w w1) (f:w0.heap[g]? =some o→w.heap[g]? =some o:=by intro h_;(with_reducible repeat(first|refine blk_drewN ?_ _|refine blk_drew ?_|refine blk_alloc ?_ _|refine bf_ ?_ (by assumption) _));exact h_):Aside0 (w1.heap[g]? =some o):=⟨blk_below (f h.out) hb⟩
theorem qx_ {w W:World} {a:Addr} {v:Value} (hB:Aside0 (Below w.heap.size w W)) (h:w.cell? a=some v):W.cell? a=some v:=(hB.out.cell (World.block_lt_of_cell? w _ h)).trans h
theorem qkp_ {w0 w w1:World} {g:Nat} {t:TypeId} {cs:Array Value} {S:Nat→Prop} (h:Aside0 (w0.heap[g]? =some (.cells cs t (0,0)))) (hk:Kept w w1 S) (hS:¬S g) (f:w0.heap[g]? =some (.cells cs t (0,0))→w.heap[g]? =some (.cells cs t (0,0)):=by intro h_;(with_reducible repeat(first|refine blk_drewN ?_ _|refine blk_drew ?_|refine blk_alloc ?_ _|refine bf_ ?_ (by assumption) _));exact h_):Aside0 (w1.heap[g]? =some (.cells cs t (0,0))):=⟨blk_kept (f h.out) hk hS⟩
theorem qv_ {p s:Prop} (h:p) (hs:s) (f:p→s→False:=by intro hk_ hs_;first|exact(hk_) hs_|exact(hk_.1) hs_|exact(hk_.2) hs_|exact(hk_.1.1) hs_|exact(hk_.1.2) hs_|exact(hk_.2.1) hs_|exact(hk_.2.2) hs_|exact(hk_.1.1.1) hs_|exact(hk_.1.1.2) hs_|exact(hk_.1.2.1) hs_|exact(hk_.1.2.2) hs_|exact(hk_.2.1.1) hs_|exact(hk_.2.1.2) hs_|exact(hk_.2.2.1) hs_|exact(hk_.2.2.2) hs_|exact(hk_.1.1.1.1) hs_|exact(hk_.1.1.1.2) hs_|exact(hk_.1.1.2.1) hs_|exact(hk_.1.1.2.2) hs_|exact(hk_.1.2.1.1) hs_|exact(hk_.1.2.1.2) hs_|exact(hk_.1.2.2.1) hs_|exact(hk_.1.2.2.2) hs_|exact(hk_.2.1.1.1) hs_|exact(hk_.2.1.1.2) hs_|exact(hk_.2.1.2.1) hs_|exact(hk_.2.1.2.2) hs_|exact(hk_.2.2.1.1) hs_|exact(hk_.2.2.1.2) hs_|exact(hk_.2.2.2.1) hs_|exact(hk_.2.2.2.2) hs_):False:=f h hs
theorem qw_ {p q:Prop} (h:p) (f:p→q:=by intro hk_;(repeat' (refine And.intro ?_ ?_));all_goals first|exact hk_|exact hk_.1|exact hk_.2|exact hk_.1.1|exact hk_.1.2|exact hk_.2.1|exact hk_.2.2|exact hk_.1.1.1|exact hk_.1.1.2|exact hk_.1.2.1|exact hk_.1.2.2|exact hk_.2.1.1|exact hk_.2.1.2|exact hk_.2.2.1|exact hk_.2.2.2|exact hk_.1.1.1.1|exact hk_.1.1.1.2|exact hk_.1.1.2.1|exact hk_.1.1.2.2|exact hk_.1.2.1.1|exact hk_.1.2.1.2|exact hk_.1.2.2.1|exact hk_.1.2.2.2|exact hk_.2.1.1.1|exact hk_.2.1.1.2|exact hk_.2.1.2.1|exact hk_.2.1.2.2|exact hk_.2.2.1.1|exact hk_.2.2.1.2|exact hk_.2.2.2.1|exact hk_.2.2.2.2):q:=f h
theorem bl_ {w:World} {g:Nat} {t:TypeId} {cs:Array Value} (h:Aside0 (w.heap[g]? =some (.cells cs t (0,0)))) (i:Nat) {v:Value} (e:cs[i]? =some v:=by exact rfl):w.cell? ⟨g,i,none⟩=some v:=(blk_cell h.out i).trans e
theorem dp_ (x:Int) (h:decide (0≤x)=true:=by first|(with_reducible assumption)|assumption):0≤x:=of_decide_eq_true h
theorem dl_ (x y:Int) (h:decide (x<y)=true:=by first|(with_reducible assumption)|assumption):x<y:=of_decide_eq_true h
theorem ff_:¬(false=true):=by decide
theorem gw_ {w W:World} {g:Nat} (hg:g=W.heap.size) (h:Below w.heap.size w W:=by repeat(first|(with_reducible first|exact HB.out|apply below_alloc|apply pw_below_drewN|apply below_drew1|refine below_set ?_ (Aside0.out (by assumption)))|exact HB.out)):Aside0 (w.heap.size≤g):=by
  subst hg
  exact⟨below_size h⟩
theorem nn_ {a b:Nat} (h:Aside0 (a≠b)):a≠b∧b≠a:=⟨h.out,fun e=>h.out e.symm⟩
theorem hs_ {w W w2:World} (k:Below W.heap.size W w2) (h:Below w.heap.size w W:=by repeat(first|(with_reducible first|exact HB.out|apply below_alloc|apply pw_below_drewN|apply below_drew1|refine below_set ?_ (Aside0.out (by assumption)))|exact HB.out)):Aside0 (Below w.heap.size w w2):=⟨below_step h k⟩
section
variable {P:Program} {ops:Array Oper} {a:Act} {Q:Exit→Act→World→Prop} {md:Region.Mode} {S:World→Prop} {ds:List Nat}
theorem pu_ (i:Nat) (n:Tmp) {oi:Oper} {fuel:Nat} {l:Array Bool} {w:World} (n_ m_:Nat) {a' :Act} (h:wpAnyLast P md ops Q S ds fuel (bm n_ m_) a' w) (hi:ops[i]? =some oi:=by exact rfl) (hN:oi.dst=some n:=by exact rfl) (hc:anyB md ops l (bm n_ m_) i=true:=by exact any_of HT_.out (by kernel_rfl)) (hQ:∀ c a w,Q (.panic c) (a.put oi.dst undef) w→Q (.panic c) a w:=by exact fun _ _ _ h=>h)
    (hy:Yields P ops oi undef a:=by exact Or.inr ⟨by rfl,rfl⟩) (ha:a.put (some n) undef=a' :=by simp only[Act.put,List.setIfInBounds_toArray,List.set_cons_zero,List.set_cons_succ,i64_w,i32_w];rfl):wpAnyLast P md ops Q S ds (fuel + 1) l a w:=pure_ (i:=i) (bm n_ m_) hi hN hc hQ hy ha h
theorem gs_ {oi : Oper} {N : Option Tmp} {w : World} {K : Act → World → Prop} {f : FuncId} {fn : Func} {oas : Array Operand} {ts : Array TypeId} (hf : P.funcs[f]? = some fn) (args : Array Value) (h : Calls P f args w fun e w' => ∃ v, e = .returned v ∧ K (a.put N v) w') (hN : oi.dst = N := by rfl) (hop : oi.op = .call { callee := .value (.func f), args := oas, argTypes := ts } := by rfl) (hargs : oas.map a.eval = args := by (try simp only [List.map_toArray, List.map_cons, List.map_nil]); first | done | rfl | (simp only [List.length_drop, List.length_take]; rfl)) (hname : (fn.name == "runtime.NumGoroutine") = false := by kernel_rfl) (hb : fn.body.isSome = true := by rfl) (hw : Region.wanted oi (yielded ops a.tmps) = true := by rfl) : if Region.wanted oi (yielded ops a.tmps) = true then Oper.wp P oi a w K Q else K (a.put N undef) w := goes_ hf hname hb args hw hN hop hargs h
theorem by_ {o:Oper} {W:World} {rest:List Oper} (N:Tmp) {cs:Array Value} {t:TypeId} (h:∀ g,g=W.heap.size→∀ w1,Aside0 (w1.heap[g]? =some (.cells cs t (0,0)))→Below W.heap.size W w1→wpList P ops Q rest (a.put o.dst (.pointer (some ⟨g,0,none⟩))) w1) (hd:o.dst=some N:=by rfl) (hgd:o.guard=none:=by rfl)
    (hrun:(execOp a.eval o).run P W= .ok (.value (.pointer (some ⟨W.heap.size,0,none⟩))) (W.alloc (.cells cs t (0,0))):=by first|(go_simp;done)|(go_simp;rfl)):wpList P ops Q (o :: rest) a W:=bx_ N (fun g hg w1 hb hB=>h g hg w1 ⟨hb⟩ hB) hd hgd hrun
theorem nm_ (n:Tmp) {fuel:Nat} {l:Array Bool} {w:World} {b a' :Act} {v:Value} (h:wpAnyLast P md ops Q S ds fuel l a' w) (ha:b.put (some n) v=a' :=by simp only[Act.put,List.setIfInBounds_toArray,List.set_cons_zero,List.set_cons_succ,i64_w,i32_w];rfl):wpAnyLast P md ops Q S ds fuel l (b.put (some n) v) w:=norm_ ha h
theorem o1_ (i:Nat) (N:Option Tmp) {oi:Oper} {fuel:Nat} {l:Array Bool} {w:World} (n_ m_:Nat) (h:∀ K:Act→World→Prop,Shut (∀ a' w',S w' →(S w' →wpAnyLast P md ops Q S ds fuel (bm n_ m_) a' w')→K a' w')→if Region.wanted oi (yielded ops a.tmps)=true then Oper.wp P oi a w K Q else K (a.put N undef) w) (hi:ops[i]? =some oi:=by exact rfl) (hN:oi.dst=N:=by exact rfl) (hc:readyB md ops l (bm n_ m_) i=true:=by exact one_of HT_.out (by kernel_rfl)) (hd:i∉ds:=by decide):wpAnyLast P md ops Q S ds (fuel + 1) l a w:=one_ (i:=i) (bm n_ m_) hi hN hc hd h
end
/-! ### the third pass -/
theorem lo_ {α :Type} {a b:Option α} (h:LeO a b:=by repeat' first|(with_reducible first|exact LeO.refl _|exact LeO.none _|refine LeO.ite ?_ ?_|refine LeO.bind ?_ (fun _=> ?_)|exact ih0 .. |exact ih1 .. |exact ih2 .. |exact ih3 .. |exact ih4 .. |exact ih5 .. |exact ih6 .. |exact ih7 .. |exact ih8 .. |exact ih9 .. |exact m0 .. |exact m1 .. |exact m2 .. |exact m3 .. |exact m4 .. |exact m5 .. |exact m6 .. |exact m7 .. |exact m8 .. |exact m9 .. |exact m10 .. |exact m11 .. |exact m12 .. |exact m13 ..)|exact LeO.none _|refine LeO.ite ?_ ?_|refine LeO.bind ?_ (fun _=> ?_)):LeO a b:=h
section
variable {p:Prop} [Decidable p] {α :Type} {a b r: α} {G:Prop}
theorem ib_ (H:(if p then a else b)=r) (f:decide p=false→b=r→G) (t:decide p=true→a=r→G):G:=if h:p then t (decide_eq_true h) ((if_pos h).symm.trans H) else f (decide_eq_false h) ((if_neg h).symm.trans H)
theorem ic_ (H:(if p then a else b)=r) (t:decide p=true→a=r→G) (f:decide p=false→b=r→G):G:=ib_ H f t
theorem jb_ (H:(if p then a else b)=r) (f:¬p→b=r→G) (t:p→a=r→G):G:=if h:p then t h ((if_pos h).symm.trans H) else f h ((if_neg h).symm.trans H)
theorem jc_ (H:(if p then a else b)=r) (t:p→a=r→G) (f:¬p→b=r→G):G:=jb_ H f t
theorem ig_ {a:Option α} {r: α} (H:(if p then a else none)=some r) (t:decide p=true→a=some r→G):G:=ib_ H (fun _ h=>by cases h) t
theorem jg_ {a:Option α} {r: α} (H:(if p then a else none)=some r) (t:p→a=some r→G):G:=jb_ H (fun _ h=>by cases h) t
theorem id_ {x:Bool} (H:(if x=true then a else b)=r) (f:x=false→b=r→G) (t:x=true→a=r→G):G:=jb_ H (fun h=>f (Bool.eq_false_iff.mpr h)) t
theorem ie_ {x:Bool} (H:(if x=true then a else b)=r) (t:x=true→a=r→G) (f:x=false→b=r→G):G:=id_ H f t
end
theorem oi_ {α :Type} {x r: α} (H:some x=some r):x=r:=Option.some.inj H
theorem bs_ {α β :Type} {o:Option α} {f: α →Option β} {r: β} (H:o.bind f=some r):∃ a,Aside0 (o=some a)∧f a=some r:=by
  obtain⟨a,h,H⟩:=Option.bind_eq_some_iff.mp H
  exact⟨a,⟨h⟩,H⟩
theorem hq_ {α :Type} {y e: α} {p q:Prop} (hy:y=e) (H:p) (f:y=e→p→q:=by intro hy_ H_;first|(rw[hy_];with_reducible exact H_)|(have H2_:=(Option.bind_some _ _).symm.trans H_;rw[hy_];with_reducible exact H2_)|(have H2_:=(Option.bind_some _ _).symm.trans H_;with_reducible exact H2_)|with_reducible exact H_|(rw[hy_];exact H_)|exact H_):q:=f hy H
theorem nx_ {p q:Prop} (h:p) (f:p→q:=by intro h_;first|exact h_|(rw[add_block];exact h_)|(show(Addr.add _ _).block≠_;rw[add_block];exact h_)|(dsimp only;exact h_)):q:=f h
theorem ra_ {p q:Prop} (h:Aside0 p) (f:p→q:=by intro h_;(with_reducible repeat(first|apply Kd.R_alloc|apply Kd.R_drewN|apply Kd.R_drew));first|exact h_|(simp only[own_slice]at h_ ⊢;exact h_)):q:=f h.out
section
variable {α β :Type} {d:Kd α} {d' :Kd β} {e e' :TypeId} {W0 w w1 w1' :World} {base:Nat} {ok ok' :Nat→Prop} {u v:Value} {xs:List α} {ys:List β}
theorem kb_ (h:Aside0 (d.R e W0 base ok v xs)) (hb:Below w.heap.size w w1) (f:d.R e W0 base ok v xs→d.R e w base ok v xs:=by intro h_;(with_reducible repeat(first|apply Kd.R_alloc|apply Kd.R_drewN|apply Kd.R_drew));exact h_):Aside0 (d.R e w1 base ok v xs):=⟨Kd.R_below (f h.out) hb⟩
theorem ke_ (h:Aside0 (d.R e W0 base ok u xs)) (ho:d'.R e' w1' w.heap.size ok' v ys) (hb:Below w.heap.size w w1) (f:d.R e W0 base ok u xs→d.R e w base ok u xs:=by intro h_;(with_reducible repeat(first|apply Kd.R_alloc|apply Kd.R_drewN|apply Kd.R_drew));exact h_):Aside0 (d.R e w1 base (fun k=>ok k∧some k≠v.ownBlock) u xs):=⟨Kd.R_elder' (f h.out) (Kd.R_base ho) hb⟩
end
theorem gc_ {P:Program} {ops:Array Oper} {Q:Exit→Act→World→Prop} {o:Oper} {rest:List Oper} {a:Act} {w:World} (f:FuncId) {oas:Array Operand} {ts:Array TypeId} (h:wpList P ops Q (o :: rest) a w) (ho:o.op= .call { callee:= .value (.func f),args:=oas,argTypes:=ts }:=by with_reducible rfl):wpList P ops Q (o :: rest) a w:=h
theorem gd_ {P:Program} {ops:Array Oper} {Q:Exit→Act→World→Prop} {o:Oper} {rest:List Oper} {a:Act} {w:World} (N:Tmp) (h:wpList P ops Q (o :: rest) a w) (hd:o.dst=some N:=by with_reducible rfl):wpList P ops Q (o :: rest) a w:=h
/-! ### the fourth pass -/
theorem bh_ {α β :Type} {a: α} {f: α →Option β} {r:Option β} (H:(some a).bind f=r):f a=r:=(Option.bind_some a f).symm.trans H
theorem bp_ {w:World} {g:Nat} {t:TypeId} {cs cs' :Array Value} {i:Nat} {u:Value} (h:w.heap[g]? =some (.cells cs t (0,0))) (e:cs.setIfInBounds i u=cs'):(w.setCell ⟨g,i,none⟩ u).heap[g]? =some (.cells cs' t (0,0)):=e ▸ blk_set h i u
theorem bfa_ {w:World} {g:Nat} {t:TypeId} {cs:Array Value} {b o:Nat} {r:Option Nat} {u:Value} (hp:Aside0 (g≠b)) (h:w.heap[g]? =some (.cells cs t (0,0))):(w.setCell ⟨b,o,r⟩ u).heap[g]? =some (.cells cs t (0,0)):=blk_far h hp.out u
theorem qp_ {p q:Prop} (h:Aside0 p) (f:p→q:=by intro h_;(with_reducible repeat(first|apply blk_drewN|apply blk_drew|apply blk_alloc|(apply bfa_;assumption)|apply bp_));exact h_;all_goals rfl):q:=f h.out
theorem dn2_ {p0 p1 G:Prop} (h0:p0) (h1:p1) (k:p0→p1→G):G:=k h0 h1
theorem dn3_ {p0 p1 p2 G:Prop} (h0:p0) (h1:p1) (h2:p2) (k:p0→p1→p2→G):G:=k h0 h1 h2
theorem dn4_ {p0 p1 p2 p3 G:Prop} (h0:p0) (h1:p1) (h2:p2) (h3:p3) (k:p0→p1→p2→p3→G):G:=k h0 h1 h2 h3
theorem dn5_ {p0 p1 p2 p3 p4 G:Prop} (h0:p0) (h1:p1) (h2:p2) (h3:p3) (h4:p4) (k:p0→p1→p2→p3→p4→G):G:=k h0 h1 h2 h3 h4
theorem dn6_ {p0 p1 p2 p3 p4 p5 G:Prop} (h0:p0) (h1:p1) (h2:p2) (h3:p3) (h4:p4) (h5:p5) (k:p0→p1→p2→p3→p4→p5→G):G:=k h0 h1 h2 h3 h4 h5
theorem dn7_ {p0 p1 p2 p3 p4 p5 p6 G:Prop} (h0:p0) (h1:p1) (h2:p2) (h3:p3) (h4:p4) (h5:p5) (h6:p6) (k:p0→p1→p2→p3→p4→p5→p6→G):G:=k h0 h1 h2 h3 h4 h5 h6
theorem dn8_ {p0 p1 p2 p3 p4 p5 p6 p7 G:Prop} (h0:p0) (h1:p1) (h2:p2) (h3:p3) (h4:p4) (h5:p5) (h6:p6) (h7:p7) (k:p0→p1→p2→p3→p4→p5→p6→p7→G):G:=k h0 h1 h2 h3 h4 h5 h6 h7
theorem dn9_ {p0 p1 p2 p3 p4 p5 p6 p7 p8 G:Prop} (h0:p0) (h1:p1) (h2:p2) (h3:p3) (h4:p4) (h5:p5) (h6:p6) (h7:p7) (h8:p8) (k:p0→p1→p2→p3→p4→p5→p6→p7→p8→G):G:=k h0 h1 h2 h3 h4 h5 h6 h7 h8
theorem dn10_ {p0 p1 p2 p3 p4 p5 p6 p7 p8 p9 G:Prop} (h0:p0) (h1:p1) (h2:p2) (h3:p3) (h4:p4) (h5:p5) (h6:p6) (h7:p7) (h8:p8) (h9:p9) (k:p0→p1→p2→p3→p4→p5→p6→p7→p8→p9→G):G:=k h0 h1 h2 h3 h4 h5 h6 h7 h8 h9
theorem dn11_ {p0 p1 p2 p3 p4 p5 p6 p7 p8 p9 p10 G:Prop} (h0:p0) (h1:p1) (h2:p2) (h3:p3) (h4:p4) (h5:p5) (h6:p6) (h7:p7) (h8:p8) (h9:p9) (h10:p10) (k:p0→p1→p2→p3→p4→p5→p6→p7→p8→p9→p10→G):G:=k h0 h1 h2 h3 h4 h5 h6 h7 h8 h9 h10
theorem dn12_ {p0 p1 p2 p3 p4 p5 p6 p7 p8 p9 p10 p11 G:Prop} (h0:p0) (h1:p1) (h2:p2) (h3:p3) (h4:p4) (h5:p5) (h6:p6) (h7:p7) (h8:p8) (h9:p9) (h10:p10) (h11:p11) (k:p0→p1→p2→p3→p4→p5→p6→p7→p8→p9→p10→p11→G):G:=k h0 h1 h2 h3 h4 h5 h6 h7 h8 h9 h10 h11
theorem dn13_ {p0 p1 p2 p3 p4 p5 p6 p7 p8 p9 p10 p11 p12 G:Prop} (h0:p0) (h1:p1) (h2:p2) (h3:p3) (h4:p4) (h5:p5) (h6:p6) (h7:p7) (h8:p8) (h9:p9) (h10:p10) (h11:p11) (h12:p12) (k:p0→p1→p2→p3→p4→p5→p6→p7→p8→p9→p10→p11→p12→G):G:=k h0 h1 h2 h3 h4 h5 h6 h7 h8 h9 h10 h11 h12
theorem dn14_ {p0 p1 p2 p3 p4 p5 p6 p7 p8 p9 p10 p11 p12 p13 G:Prop} (h0:p0) (h1:p1) (h2:p2) (h3:p3) (h4:p4) (h5:p5) (h6:p6) (h7:p7) (h8:p8) (h9:p9) (h10:p10) (h11:p11) (h12:p12) (h13:p13) (k:p0→p1→p2→p3→p4→p5→p6→p7→p8→p9→p10→p11→p12→p13→G):G:=k h0 h1 h2 h3 h4 h5 h6 h7 h8 h9 h10 h11 h12 h13
theorem dn15_ {p0 p1 p2 p3 p4 p5 p6 p7 p8 p9 p10 p11 p12 p13 p14 G:Prop} (h0:p0) (h1:p1) (h2:p2) (h3:p3) (h4:p4) (h5:p5) (h6:p6) (h7:p7) (h8:p8) (h9:p9) (h10:p10) (h11:p11) (h12:p12) (h13:p13) (h14:p14) (k:p0→p1→p2→p3→p4→p5→p6→p7→p8→p9→p10→p11→p12→p13→p14→G):G:=k h0 h1 h2 h3 h4 h5 h6 h7 h8 h9 h10 h11 h12 h13 h14
theorem dn16_ {p0 p1 p2 p3 p4 p5 p6 p7 p8 p9 p10 p11 p12 p13 p14 p15 G:Prop} (h0:p0) (h1:p1) (h2:p2) (h3:p3) (h4:p4) (h5:p5) (h6:p6) (h7:p7) (h8:p8) (h9:p9) (h10:p10) (h11:p11) (h12:p12) (h13:p13) (h14:p14) (h15:p15) (k:p0→p1→p2→p3→p4→p5→p6→p7→p8→p9→p10→p11→p12→p13→p14→p15→G):G:=k h0 h1 h2 h3 h4 h5 h6 h7 h8 h9 h10 h11 h12 h13 h14 h15
theorem dn17_ {p0 p1 p2 p3 p4 p5 p6 p7 p8 p9 p10 p11 p12 p13 p14 p15 p16 G:Prop} (h0:p0) (h1:p1) (h2:p2) (h3:p3) (h4:p4) (h5:p5) (h6:p6) (h7:p7) (h8:p8) (h9:p9) (h10:p10) (h11:p11) (h12:p12) (h13:p13) (h14:p14) (h15:p15) (h16:p16) (k:p0→p1→p2→p3→p4→p5→p6→p7→p8→p9→p10→p11→p12→p13→p14→p15→p16→G):G:=k h0 h1 h2 h3 h4 h5 h6 h7 h8 h9 h10 h11 h12 h13 h14 h15 h16
theorem dn18_ {p0 p1 p2 p3 p4 p5 p6 p7 p8 p9 p10 p11 p12 p13 p14 p15 p16 p17 G:Prop} (h0:p0) (h1:p1) (h2:p2) (h3:p3) (h4:p4) (h5:p5) (h6:p6) (h7:p7) (h8:p8) (h9:p9) (h10:p10) (h11:p11) (h12:p12) (h13:p13) (h14:p14) (h15:p15) (h16:p16) (h17:p17) (k:p0→p1→p2→p3→p4→p5→p6→p7→p8→p9→p10→p11→p12→p13→p14→p15→p16→p17→G):G:=k h0 h1 h2 h3 h4 h5 h6 h7 h8 h9 h10 h11 h12 h13 h14 h15 h16 h17
theorem dn19_ {p0 p1 p2 p3 p4 p5 p6 p7 p8 p9 p10 p11 p12 p13 p14 p15 p16 p17 p18 G:Prop} (h0:p0) (h1:p1) (h2:p2) (h3:p3) (h4:p4) (h5:p5) (h6:p6) (h7:p7) (h8:p8) (h9:p9) (h10:p10) (h11:p11) (h12:p12) (h13:p13) (h14:p14) (h15:p15) (h16:p16) (h17:p17) (h18:p18) (k:p0→p1→p2→p3→p4→p5→p6→p7→p8→p9→p10→p11→p12→p13→p14→p15→p16→p17→p18→G):G:=k h0 h1 h2 h3 h4 h5 h6 h7 h8 h9 h10 h11 h12 h13 h14 h15 h16 h17 h18
theorem dn20_ {p0 p1 p2 p3 p4 p5 p6 p7 p8 p9 p10 p11 p12 p13 p14 p15 p16 p17 p18 p19 G:Prop} (h0:p0) (h1:p1) (h2:p2) (h3:p3) (h4:p4) (h5:p5) (h6:p6) (h7:p7) (h8:p8) (h9:p9) (h10:p10) (h11:p11) (h12:p12) (h13:p13) (h14:p14) (h15:p15) (h16:p16) (h17:p17) (h18:p18) (h19:p19) (k:p0→p1→p2→p3→p4→p5→p6→p7→p8→p9→p10→p11→p12→p13→p14→p15→p16→p17→p18→p19→G):G:=k h0 h1 h2 h3 h4 h5 h6 h7 h8 h9 h10 h11 h12 h13 h14 h15 h16 h17 h18 h19
theorem dn21_ {p0 p1 p2 p3 p4 p5 p6 p7 p8 p9 p10 p11 p12 p13 p14 p15 p16 p17 p18 p19 p20 G:Prop} (h0:p0) (h1:p1) (h2:p2) (h3:p3) (h4:p4) (h5:p5) (h6:p6) (h7:p7) (h8:p8) (h9:p9) (h10:p10) (h11:p11) (h12:p12) (h13:p13) (h14:p14) (h15:p15) (h16:p16) (h17:p17) (h18:p18) (h19:p19) (h20:p20) (k:p0→p1→p2→p3→p4→p5→p6→p7→p8→p9→p10→p11→p12→p13→p14→p15→p16→p17→p18→p19→p20→G):G:=k h0 h1 h2 h3 h4 h5 h6 h7 h8 h9 h10 h11 h12 h13 h14 h15 h16 h17 h18 h19 h20
theorem dn22_ {p0 p1 p2 p3 p4 p5 p6 p7 p8 p9 p10 p11 p12 p13 p14 p15 p16 p17 p18 p19 p20 p21 G:Prop} (h0:p0) (h1:p1) (h2:p2) (h3:p3) (h4:p4) (h5:p5) (h6:p6) (h7:p7) (h8:p8) (h9:p9) (h10:p10) (h11:p11) (h12:p12) (h13:p13) (h14:p14) (h15:p15) (h16:p16) (h17:p17) (h18:p18) (h19:p19) (h20:p20) (h21:p21) (k:p0→p1→p2→p3→p4→p5→p6→p7→p8→p9→p10→p11→p12→p13→p14→p15→p16→p17→p18→p19→p20→p21→G):G:=k h0 h1 h2 h3 h4 h5 h6 h7 h8 h9 h10 h11 h12 h13 h14 h15 h16 h17 h18 h19 h20 h21
theorem dn23_ {p0 p1 p2 p3 p4 p5 p6 p7 p8 p9 p10 p11 p12 p13 p14 p15 p16 p17 p18 p19 p20 p21 p22 G:Prop} (h0:p0) (h1:p1) (h2:p2) (h3:p3) (h4:p4) (h5:p5) (h6:p6) (h7:p7) (h8:p8) (h9:p9) (h10:p10) (h11:p11) (h12:p12) (h13:p13) (h14:p14) (h15:p15) (h16:p16) (h17:p17) (h18:p18) (h19:p19) (h20:p20) (h21:p21) (h22:p22) (k:p0→p1→p2→p3→p4→p5→p6→p7→p8→p9→p10→p11→p12→p13→p14→p15→p16→p17→p18→p19→p20→p21→p22→G):G:=k h0 h1 h2 h3 h4 h5 h6 h7 h8 h9 h10 h11 h12 h13 h14 h15 h16 h17 h18 h19 h20 h21 h22
theorem dn24_ {p0 p1 p2 p3 p4 p5 p6 p7 p8 p9 p10 p11 p12 p13 p14 p15 p16 p17 p18 p19 p20 p21 p22 p23 G:Prop} (h0:p0) (h1:p1) (h2:p2) (h3:p3) (h4:p4) (h5:p5) (h6:p6) (h7:p7) (h8:p8) (h9:p9) (h10:p10) (h11:p11) (h12:p12) (h13:p13) (h14:p14) (h15:p15) (h16:p16) (h17:p17) (h18:p18) (h19:p19) (h20:p20) (h21:p21) (h22:p22) (h23:p23) (k:p0→p1→p2→p3→p4→p5→p6→p7→p8→p9→p10→p11→p12→p13→p14→p15→p16→p17→p18→p19→p20→p21→p22→p23→G):G:=k h0 h1 h2 h3 h4 h5 h6 h7 h8 h9 h10 h11 h12 h13 h14 h15 h16 h17 h18 h19 h20 h21 h22 h23
theorem dn25_ {p0 p1 p2 p3 p4 p5 p6 p7 p8 p9 p10 p11 p12 p13 p14 p15 p16 p17 p18 p19 p20 p21 p22 p23 p24 G:Prop} (h0:p0) (h1:p1) (h2:p2) (h3:p3) (h4:p4) (h5:p5) (h6:p6) (h7:p7) (h8:p8) (h9:p9) (h10:p10) (h11:p11) (h12:p12) (h13:p13) (h14:p14) (h15:p15) (h16:p16) (h17:p17) (h18:p18) (h19:p19) (h20:p20) (h21:p21) (h22:p22) (h23:p23) (h24:p24) (k:p0→p1→p2→p3→p4→p5→p6→p7→p8→p9→p10→p11→p12→p13→p14→p15→p16→p17→p18→p19→p20→p21→p22→p23→p24→G):G:=k h0 h1 h2 h3 h4 h5 h6 h7 h8 h9 h10 h11 h12 h13 h14 h15 h16 h17 h18 h19 h20 h21 h22 h23 h24
theorem dt_ (x:Int) (h:decide (0≤x)=true:=by first|(with_reducible assumption)|assumption):(0≤x)=True:=eq_true (of_decide_eq_true h)
theorem du_ (x y:Int) (h:decide (x<y)=true:=by first|(with_reducible assumption)|assumption):(x<y)=True:=eq_true (of_decide_eq_true h)
theorem ot_ {p:Prop} (h:p=True):p:=of_eq_true h
theorem on_ {p:Nat→Bool} {q:Prop} {b:Nat→Bool} (hon:∀ j,p j=true→b j=true) (i:Nat) (f:b i=true→q) (h:p i=true:=by kernel_rfl):Aside0 q:=⟨f (hon i h)⟩
theorem bd_ {w:World} {g:Nat} {o:Obj} (h:Aside0 (w.heap[g]? =some o)):Aside0 (w.drew.heap[g]? =some o):=⟨blk_drew h.out⟩
section
variable {α :Type} {d:Kd α} {e:TypeId} {w:World} {base:Nat} {ok:Nat→Prop} {v:Value} {xs:List α}
theorem rd_ (h:Aside0 (d.R e w base ok v xs)):Aside0 (d.R e w.drew base ok v xs):=⟨Kd.R_drew h.out⟩
end
theorem hd_ {B:Nat} {a w:World} (h:Aside0 (Below B a w)):Aside0 (Below B a w.drew):=⟨below_drew1 h.out⟩
end Go.Proofs.Ytbkklafkoegdpaa.QFnTakes

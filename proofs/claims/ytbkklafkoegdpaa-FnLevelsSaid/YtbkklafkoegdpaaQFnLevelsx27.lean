import Derived.Test.YtbkklafkoegdpaaQFnLevelsx0
namespace Go.Proofs.Ytbkklafkoegdpaa.QFnLevels
open Go.RowKit Go.Proofs.YtbkklafkoegdpaaW.PrintWords Go.Proofs.YtbkklafkoegdpaaW.PrintLast Go.Proofs.YtbkklafkoegdpaaW.PrintMore
set_option maxHeartbeats 8000000
set_option maxRecDepth 100000
set_option linter.unusedVariables false
set_option linter.unusedSimpArgs false
def impl_copyInts.f (l0:List Int):Option (List Int):=if ([]:List Int).length + l0.length<17592186044416 then (some (([]:List Int)++l0)) else (none)
theorem impl_copyInts.calls (i:Option Addr) (j:Nat) (l0:List Int) (r:List Int) (w:World) (hr0:Kd.C (Kd.int .i64) w i l0.length l0) (hc0:l0.length≤j) (h:impl_copyInts.f l0=some r):
  Calls Try.prog 121 #[.slice i l0.length j] w fun e w' =>∃ d:Value,e= .returned (d)∧Kd.R (Kd.int .i64) 3 w' w.heap.size (fun _=>True) d r∧Below w.heap.size w w' :=by
 have m:=am_ hr0
 have o:=am_ hc0
 clear hr0 hc0
 have HB:=am_ (Below.refl w.heap.size w)
 rw[impl_copyInts.f]at h;have H:=h;clear h
 refine jg_ H ?_;clear H;intro l H
 have g:=am_ l
 clear l
 generalize a:(([]:List Int)++l0)=p at H;replace H:=bh_ H;have c:=am_ a.symm;clear a
 obtain rfl:=oi_ H
 go_enter Try.func121,Try.ntmps121
 go_wp2_with (first|((with_reducible refine gate_builtin (b:= .append) (xs:= #[.const (.slice none 0 0),.tmp 3]) rfl ?_);at_builtin;refine Kd.R_append_rows (Kd.int .i64) (w0:=w) w.heap.size rfl (.const (.slice none 0 0)) (.tmp 3) 51 3 (.int .i64 0) 8 rfl Try.underlying51 info3 rfl (by decide) (by omega) (.slice none 0 0) ([]:List Int) l0 _ _ _ (fun _=>True) (fun _=>False) rfl rfl ?aO ?aR (fun _ _ h=>h) (fun _ h=>h.elim) ?aF ?aB ?aS ?aL ?_;(case aR=>repeat(first|exact m.out|(with_reducible refine Kd.C_alloc ?_ _)|(with_reducible refine Kd.C_drewN ?_ _)|(with_reducible refine Kd.C_drew ?_)));(case aB=>exact qB_);(case aF=>exact(fun _ _=>trivial));(case aO=>exact((Kd.R_nil _ _ _ _ (fun _=>True))));(case aS=>exact(below_size qB_));(case aL=>have:=g.out;omega);intro q s ho hb hg hat;rw[←c.out]at ho;have n:=am_ (ho);replace HB:=am_ (hb);clear ho hb hg hat))
 go_ret
 exact⟨_,qr_,qR_ n,qB_⟩
end Go.Proofs.Ytbkklafkoegdpaa.QFnLevels

/- walks (own work; the walks' lines by a program of this repo). -/
import Derived.Test.YtfijmjolchdkfaaMrW
import Derived.Test.YtfijmjolchdkfaaSb
import Derived.Test.YtfijmjolchdkfaaXc
import Derived.Test.YtfijmjolchdkfaaFc
set_option linter.unusedVariables false
set_option linter.unusedSimpArgs false
set_option maxRecDepth 20000
namespace Go.Proofs.Ytfijmjolchdkfaa
open Go.Sl
attribute [local irreducible] BodyQ WpC WpL WpS WpH OpW FnS


theorem good09_s {w0 : World} {H : Hp} (n : Int) (s : Sec) (hs : s.length = 128) : FnS Try.prog w0 18 #[.int .i64 n, .agg (bs s).toArray] H (fun e H' => e = .returned (.bool (goodP n s)) ∧ H' = H) := by
  have b0 := (s.getD 0 0).toNat_lt
  have b1 := (s.getD 1 0).toNat_lt
  refine FnS_intro (n := 16) (rs := [.tmp 4]) (vs := [.int .i64 n, .agg (bs s).toArray]) Try.func18 rfl Try.ntmps18 rfl rfl ?_
  refine C_seq ?_
  refine C_region ?_
  refine L_op rfl (op_box rfl rfl rfl (fun B1 => ?_))
  refine L_y rfl (y_assign rfl) rfl ?_
  refine L_nil ?_
  refine C_seq ?_
  refine C_region ?_
  refine L_y rfl (y_indexA rfl rfl Try.underlying32 sz_5 (by omega) (by omega) (show _ = 0 from rfl)) rfl ?_
  refine L_y rfl (y_load rfl ag_5 (sees 0 0 rfl) (bs_getD (by omega))) rfl ?_
  refine L_y rfl (y_conv rfl us_5 Try.underlying3 (wi64 (by omega) (by omega))) rfl ?_
  refine L_y rfl (y_indexA rfl rfl Try.underlying32 sz_5 (by omega) (by omega) (show _ = 1 from rfl)) rfl ?_
  refine L_y rfl (y_load rfl ag_5 (sees 0 0 rfl) (bs_getD (by omega))) rfl ?_
  refine L_y rfl (y_conv rfl us_5 Try.underlying3 (wi64 (by omega) (by omega))) rfl ?_
  refine L_y rfl (y_add rfl rfl (wi64 (by omega) (by omega))) rfl ?_
  refine L_y rfl (y_move rfl) rfl ?_
  refine L_y rfl (y_add rfl rfl rfl) rfl ?_
  refine L_y rfl (y_rem rfl rfl (by decide) rfl) rfl ?_
  refine L_y rfl (y_nei rfl rfl) rfl ?_
  refine L_y rfl (y_assign rfl) rfl ?_
  refine L_nil ?_
  refine C_ret ?_
  refine B_ret (rv_tmp rfl rv_nil) (hsub (.cons _ (.refl _))) ?_
  exact ⟨rfl, rfl⟩

theorem good_at {w0 : World} {H : Hp} : GoodAt Try.prog w0 H (.func (.func 18) #[] ([] : List Value).toArray) goodP := .inr ⟨18, [], rfl, fun a w => Try.call18 a w, fun H' n s _ hs => good09_s n s hs⟩

end Go.Proofs.Ytfijmjolchdkfaa

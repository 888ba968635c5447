/- Own work: texts E6W, Fe, E0W, E1W, E8W, Fg, G0W, G1W, E2W, E3W, E9W, A8, H2W, Rw, Rg, Re, put together. -/
import Derived.Test.YtaeooiogjhkjfaaProg
import Derived.ShutString
import Derived.OpenShut
import Derived.Carry
import Derived.Deep.Slices
import Derived.Test.YtaeooiogjhkjfaaMExtentLeasta
/- walks (own work; the walks' lines by a program of this repo). -/
set_option linter.unusedVariables false
set_option linter.unusedSimpArgs false
set_option maxRecDepth 20000
namespace Go.Proofs.Ytaeooiogjhkjfaa
open Go.Sl
attribute [local irreducible] BodyQ WpC WpL WpS WpH OpW FnS


theorem put18_0t {w0 : World} {H : Hp} {l : Xl} {g : Option SlG} (hok : slOk 2 g l.length (lcs l)) (hl : l.length < 1000000) (segs size : Int) (n : Nat) (a : Int) (h0 : n = 0) : FnS Try.prog w0 77 #[slV g l.length, .int .i64 segs, .int .i64 size, .int .u64 (n : Int), .int .i64 a, .bool true] (slSeg 79 g (lcs l) :: H) (fun e H' => ∃ g2, slOk 2 g2 (xput segs size l n a true).1.length (lcs (xput segs size l n a true).1) ∧ e = .returned (.tuple #[slV g2 (xput segs size l n a true).1.length, .int .i64 (xput segs size l n a true).2]) ∧ H' = slSeg 79 g2 (lcs (xput segs size l n a true).1) :: H) := by
  refine FnS_intro (n := 86) (rs := [.tmp 12, .tmp 13]) (vs := [slV g l.length, .int .i64 segs, .int .i64 size, .int .u64 (n : Int), .int .i64 a, .bool true]) Try.func77 rfl Try.ntmps77 rfl rfl ?_
  refine C_seq ?_
  refine C_region ?_
  refine L_y rfl (y_assign rfl) rfl ?_
  refine L_y rfl (y_assign rfl) rfl ?_
  refine L_nil ?_
  refine C_seq ?_
  refine C_seq ?_
  refine C_region ?_
  refine L_y rfl (y_move rfl) rfl ?_
  refine L_y rfl (y_eqi rfl rfl) rfl ?_
  refine L_nil ?_
  refine C_cond rfl (fun hc0 => ?_) (fun hc0 => absurd hc0 (by simp [h0]))
  refine C_seq ?_
  refine C_region ?_
  refine L_y rfl (y_move rfl) rfl ?_
  refine L_y rfl (y_assign rfl) rfl ?_
  refine L_y rfl (y_assign rfl) rfl ?_
  refine L_nil ?_
  refine C_ret ?_
  refine B_ret (rv_tmp rfl (rv_tmp rfl rv_nil)) ((hsub (.cons_cons _ (.refl _))).trans (hsub_pick [0] rfl)) ?_
  have e4 : xput segs size l n a true = (l, 1) := by simp [xput, *]
  rw [e4]
  exact ⟨g, hok, rfl, rfl⟩

theorem put18_rt {w0 : World} {H : Hp} {l : Xl} {g : Option SlG} (hok : slOk 2 g l.length (lcs l)) (hl : l.length < 1000000) (segs size : Int) (n : Nat) (a : Int) (h0 : n ≠ 0) (ho : ofS segs size a = none) : FnS Try.prog w0 77 #[slV g l.length, .int .i64 segs, .int .i64 size, .int .u64 (n : Int), .int .i64 a, .bool true] (slSeg 79 g (lcs l) :: H) (fun e H' => ∃ g2, slOk 2 g2 (xput segs size l n a true).1.length (lcs (xput segs size l n a true).1) ∧ e = .returned (.tuple #[slV g2 (xput segs size l n a true).1.length, .int .i64 (xput segs size l n a true).2]) ∧ H' = slSeg 79 g2 (lcs (xput segs size l n a true).1) :: H) := by
  refine FnS_intro (n := 86) (rs := [.tmp 12, .tmp 13]) (vs := [slV g l.length, .int .i64 segs, .int .i64 size, .int .u64 (n : Int), .int .i64 a, .bool true]) Try.func77 rfl Try.ntmps77 rfl rfl ?_
  refine C_seq ?_
  refine C_region ?_
  refine L_y rfl (y_assign rfl) rfl ?_
  refine L_y rfl (y_assign rfl) rfl ?_
  refine L_nil ?_
  refine C_seq ?_
  refine C_seq ?_
  refine C_region ?_
  refine L_y rfl (y_move rfl) rfl ?_
  refine L_y rfl (y_eqi rfl rfl) rfl ?_
  refine L_nil ?_
  refine C_cond rfl (fun hc0 => absurd hc0 (by simp <;> omega)) (fun hc0 => ?_)
  refine C_skip ?_
  refine C_seq ?_
  refine C_seq ?_
  refine C_region ?_
  refine L_y rfl (y_move rfl) rfl ?_
  refine L_y rfl (y_move rfl) rfl ?_
  refine L_y rfl (y_move rfl) rfl ?_
  refine L_op rfl (op_call rfl rfl (fun a w => Try.call84 a w) rfl ?_)
  refine (seg18_s segs size a).mono ?_
  rintro _ _ ⟨rfl, e⟩
  obtain rfl := e.symm
  clear e
  rw [seg18_no ho]
  refine ⟨_, rfl, ?_⟩
  refine L_y rfl (y_lss rfl rfl) rfl ?_
  refine L_nil ?_
  refine C_cond_t rfl ?_
  refine C_seq ?_
  refine C_region ?_
  refine L_y rfl (y_move rfl) rfl ?_
  refine L_y rfl (y_assign rfl) rfl ?_
  refine L_y rfl (y_assign rfl) rfl ?_
  refine L_nil ?_
  refine C_ret ?_
  refine B_ret (rv_tmp rfl (rv_tmp rfl rv_nil)) ((hsub (.cons_cons _ (.refl _))).trans (hsub_pick [0] rfl)) ?_
  have e4 : xput segs size l n a true = (l, 2) := by simp [xput, *]
  rw [e4]
  exact ⟨g, hok, rfl, rfl⟩

theorem put18_0f {w0 : World} {H : Hp} {l : Xl} {g : Option SlG} (hok : slOk 2 g l.length (lcs l)) (hl : l.length < 1000000) (segs size : Int) (n : Nat) (a : Int) (h0 : n = 0) : FnS Try.prog w0 77 #[slV g l.length, .int .i64 segs, .int .i64 size, .int .u64 (n : Int), .int .i64 a, .bool false] (slSeg 79 g (lcs l) :: H) (fun e H' => ∃ g2, slOk 2 g2 (xput segs size l n a false).1.length (lcs (xput segs size l n a false).1) ∧ e = .returned (.tuple #[slV g2 (xput segs size l n a false).1.length, .int .i64 (xput segs size l n a false).2]) ∧ H' = slSeg 79 g2 (lcs (xput segs size l n a false).1) :: H) := by
  refine FnS_intro (n := 86) (rs := [.tmp 12, .tmp 13]) (vs := [slV g l.length, .int .i64 segs, .int .i64 size, .int .u64 (n : Int), .int .i64 a, .bool false]) Try.func77 rfl Try.ntmps77 rfl rfl ?_
  refine C_seq ?_
  refine C_region ?_
  refine L_y rfl (y_assign rfl) rfl ?_
  refine L_y rfl (y_assign rfl) rfl ?_
  refine L_nil ?_
  refine C_seq ?_
  refine C_seq ?_
  refine C_region ?_
  refine L_y rfl (y_move rfl) rfl ?_
  refine L_y rfl (y_eqi rfl rfl) rfl ?_
  refine L_nil ?_
  refine C_cond rfl (fun hc0 => ?_) (fun hc0 => absurd hc0 (by simp [h0]))
  refine C_seq ?_
  refine C_region ?_
  refine L_y rfl (y_move rfl) rfl ?_
  refine L_y rfl (y_assign rfl) rfl ?_
  refine L_y rfl (y_assign rfl) rfl ?_
  refine L_nil ?_
  refine C_ret ?_
  refine B_ret (rv_tmp rfl (rv_tmp rfl rv_nil)) ((hsub (.cons_cons _ (.refl _))).trans (hsub_pick [0] rfl)) ?_
  have e4 : xput segs size l n a false = (l, 1) := by simp [xput, *]
  rw [e4]
  exact ⟨g, hok, rfl, rfl⟩

theorem put18_rf {w0 : World} {H : Hp} {l : Xl} {g : Option SlG} (hok : slOk 2 g l.length (lcs l)) (hl : l.length < 1000000) (segs size : Int) (n : Nat) (a : Int) (h0 : n ≠ 0) (ho : ofS segs size a = none) : FnS Try.prog w0 77 #[slV g l.length, .int .i64 segs, .int .i64 size, .int .u64 (n : Int), .int .i64 a, .bool false] (slSeg 79 g (lcs l) :: H) (fun e H' => ∃ g2, slOk 2 g2 (xput segs size l n a false).1.length (lcs (xput segs size l n a false).1) ∧ e = .returned (.tuple #[slV g2 (xput segs size l n a false).1.length, .int .i64 (xput segs size l n a false).2]) ∧ H' = slSeg 79 g2 (lcs (xput segs size l n a false).1) :: H) := by
  refine FnS_intro (n := 86) (rs := [.tmp 12, .tmp 13]) (vs := [slV g l.length, .int .i64 segs, .int .i64 size, .int .u64 (n : Int), .int .i64 a, .bool false]) Try.func77 rfl Try.ntmps77 rfl rfl ?_
  refine C_seq ?_
  refine C_region ?_
  refine L_y rfl (y_assign rfl) rfl ?_
  refine L_y rfl (y_assign rfl) rfl ?_
  refine L_nil ?_
  refine C_seq ?_
  refine C_seq ?_
  refine C_region ?_
  refine L_y rfl (y_move rfl) rfl ?_
  refine L_y rfl (y_eqi rfl rfl) rfl ?_
  refine L_nil ?_
  refine C_cond rfl (fun hc0 => absurd hc0 (by simp <;> omega)) (fun hc0 => ?_)
  refine C_skip ?_
  refine C_seq ?_
  refine C_seq ?_
  refine C_region ?_
  refine L_y rfl (y_move rfl) rfl ?_
  refine L_y rfl (y_move rfl) rfl ?_
  refine L_y rfl (y_move rfl) rfl ?_
  refine L_op rfl (op_call rfl rfl (fun a w => Try.call84 a w) rfl ?_)
  refine (seg18_s segs size a).mono ?_
  rintro _ _ ⟨rfl, e⟩
  obtain rfl := e.symm
  clear e
  rw [seg18_no ho]
  refine ⟨_, rfl, ?_⟩
  refine L_y rfl (y_lss rfl rfl) rfl ?_
  refine L_nil ?_
  refine C_cond_t rfl ?_
  refine C_seq ?_
  refine C_region ?_
  refine L_y rfl (y_move rfl) rfl ?_
  refine L_y rfl (y_assign rfl) rfl ?_
  refine L_y rfl (y_assign rfl) rfl ?_
  refine L_nil ?_
  refine C_ret ?_
  refine B_ret (rv_tmp rfl (rv_tmp rfl rv_nil)) ((hsub (.cons_cons _ (.refl _))).trans (hsub_pick [0] rfl)) ?_
  have e4 : xput segs size l n a false = (l, 2) := by simp [xput, *]
  rw [e4]
  exact ⟨g, hok, rfl, rfl⟩

theorem put18_m4 {w0 : World} {H : Hp} {l : Xl} {g : Option SlG} (hok : slOk 2 g l.length (lcs l)) (hl : l.length < 1000000) (segs size : Int) (n : Nat) (a : Int) (h0 : n ≠ 0) {s : Int} (ho : ofS segs size a = some s) (hf : xfind l n = none) : FnS Try.prog w0 77 #[slV g l.length, .int .i64 segs, .int .i64 size, .int .u64 (n : Int), .int .i64 a, .bool true] (slSeg 79 g (lcs l) :: H) (fun e H' => ∃ g2, slOk 2 g2 (xput segs size l n a true).1.length (lcs (xput segs size l n a true).1) ∧ e = .returned (.tuple #[slV g2 (xput segs size l n a true).1.length, .int .i64 (xput segs size l n a true).2]) ∧ H' = slSeg 79 g2 (lcs (xput segs size l n a true).1) :: H) := by
  have hs0 := (ofS_spec ho).2.2.2.2.1
  refine FnS_intro (n := 86) (rs := [.tmp 12, .tmp 13]) (vs := [slV g l.length, .int .i64 segs, .int .i64 size, .int .u64 (n : Int), .int .i64 a, .bool true]) Try.func77 rfl Try.ntmps77 rfl rfl ?_
  refine C_seq ?_
  refine C_region ?_
  refine L_y rfl (y_assign rfl) rfl ?_
  refine L_y rfl (y_assign rfl) rfl ?_
  refine L_nil ?_
  refine C_seq ?_
  refine C_seq ?_
  refine C_region ?_
  refine L_y rfl (y_move rfl) rfl ?_
  refine L_y rfl (y_eqi rfl rfl) rfl ?_
  refine L_nil ?_
  refine C_cond rfl (fun hc0 => absurd hc0 (by simp <;> omega)) (fun hc0 => ?_)
  refine C_skip ?_
  refine C_seq ?_
  refine C_seq ?_
  refine C_region ?_
  refine L_y rfl (y_move rfl) rfl ?_
  refine L_y rfl (y_move rfl) rfl ?_
  refine L_y rfl (y_move rfl) rfl ?_
  refine L_op rfl (op_call rfl rfl (fun a w => Try.call84 a w) rfl ?_)
  refine (seg18_s segs size a).mono ?_
  rintro _ _ ⟨rfl, e⟩
  obtain rfl := e.symm
  clear e
  rw [show seg18 segs size a = s from by unfold seg18; rw [ho]]
  refine ⟨_, rfl, ?_⟩
  refine L_y rfl (y_lss rfl rfl) rfl ?_
  refine L_nil ?_
  refine C_cond rfl (fun hc1 => absurd hc1 (by simp <;> omega)) (fun hc1 => ?_)
  refine C_skip ?_
  refine C_seq ?_
  refine C_region ?_
  refine L_y rfl (y_move rfl) rfl ?_
  refine L_y rfl (y_move rfl) rfl ?_
  refine L_op rfl (op_call rfl rfl (fun a w => Try.call38 a w) rfl ?_)
  refine (find18_s (g := g) hok hl n).mono ?_
  rintro _ _ ⟨rfl, rfl⟩
  rw [fnd_none hf]
  refine ⟨_, rfl, ?_⟩
  refine L_y rfl (y_assign rfl) rfl ?_
  refine L_nil ?_
  refine C_seq ?_
  refine C_seq ?_
  refine C_region ?_
  refine L_y rfl (y_move rfl) rfl ?_
  refine L_y rfl (y_move rfl) rfl ?_
  refine L_y rfl (y_move rfl) rfl ?_
  refine L_y rfl (y_lss rfl rfl) rfl ?_
  refine L_y rfl (y_pick_t rfl rfl) rfl ?_
  refine L_nil ?_
  refine C_cond_t rfl ?_
  refine C_seq ?_
  refine C_region ?_
  refine L_y rfl (y_move rfl) rfl ?_
  refine L_y rfl (y_assign rfl) rfl ?_
  refine L_y rfl (y_assign rfl) rfl ?_
  refine L_nil ?_
  refine C_ret ?_
  refine B_ret (rv_tmp rfl (rv_tmp rfl rv_nil)) ((hsub (.cons_cons _ (.refl _))).trans (hsub_pick [0] rfl)) ?_
  have e4 : xput segs size l n a true = (l, 4) := by simp [xput, *]
  rw [e4]
  exact ⟨g, hok, rfl, rfl⟩

theorem put18_p5 {w0 : World} {H : Hp} {l : Xl} {g : Option SlG} (hok : slOk 2 g l.length (lcs l)) (hl : l.length < 1000000) (segs size : Int) (n : Nat) (a : Int) (h0 : n ≠ 0) {s : Int} (ho : ofS segs size a = some s) {q : Int} {k : Nat} (hf : xfind l n = some q) (hk : fnd l n = (k : Int)) : FnS Try.prog w0 77 #[slV g l.length, .int .i64 segs, .int .i64 size, .int .u64 (n : Int), .int .i64 a, .bool false] (slSeg 79 g (lcs l) :: H) (fun e H' => ∃ g2, slOk 2 g2 (xput segs size l n a false).1.length (lcs (xput segs size l n a false).1) ∧ e = .returned (.tuple #[slV g2 (xput segs size l n a false).1.length, .int .i64 (xput segs size l n a false).2]) ∧ H' = slSeg 79 g2 (lcs (xput segs size l n a false).1) :: H) := by
  have hs0 := (ofS_spec ho).2.2.2.2.1
  refine FnS_intro (n := 86) (rs := [.tmp 12, .tmp 13]) (vs := [slV g l.length, .int .i64 segs, .int .i64 size, .int .u64 (n : Int), .int .i64 a, .bool false]) Try.func77 rfl Try.ntmps77 rfl rfl ?_
  refine C_seq ?_
  refine C_region ?_
  refine L_y rfl (y_assign rfl) rfl ?_
  refine L_y rfl (y_assign rfl) rfl ?_
  refine L_nil ?_
  refine C_seq ?_
  refine C_seq ?_
  refine C_region ?_
  refine L_y rfl (y_move rfl) rfl ?_
  refine L_y rfl (y_eqi rfl rfl) rfl ?_
  refine L_nil ?_
  refine C_cond rfl (fun hc0 => absurd hc0 (by simp <;> omega)) (fun hc0 => ?_)
  refine C_skip ?_
  refine C_seq ?_
  refine C_seq ?_
  refine C_region ?_
  refine L_y rfl (y_move rfl) rfl ?_
  refine L_y rfl (y_move rfl) rfl ?_
  refine L_y rfl (y_move rfl) rfl ?_
  refine L_op rfl (op_call rfl rfl (fun a w => Try.call84 a w) rfl ?_)
  refine (seg18_s segs size a).mono ?_
  rintro _ _ ⟨rfl, e⟩
  obtain rfl := e.symm
  clear e
  rw [show seg18 segs size a = s from by unfold seg18; rw [ho]]
  refine ⟨_, rfl, ?_⟩
  refine L_y rfl (y_lss rfl rfl) rfl ?_
  refine L_nil ?_
  refine C_cond rfl (fun hc1 => absurd hc1 (by simp <;> omega)) (fun hc1 => ?_)
  refine C_skip ?_
  refine C_seq ?_
  refine C_region ?_
  refine L_y rfl (y_move rfl) rfl ?_
  refine L_y rfl (y_move rfl) rfl ?_
  refine L_op rfl (op_call rfl rfl (fun a w => Try.call38 a w) rfl ?_)
  refine (find18_s (g := g) hok hl n).mono ?_
  rintro _ _ ⟨rfl, rfl⟩
  rw [hk]
  refine ⟨_, rfl, ?_⟩
  refine L_y rfl (y_assign rfl) rfl ?_
  refine L_nil ?_
  refine C_seq ?_
  refine C_seq ?_
  refine C_region ?_
  refine L_y rfl (y_move rfl) rfl ?_
  refine L_y rfl (y_move rfl) rfl ?_
  refine L_skip rfl rfl ?_
  refine L_skip rfl rfl ?_
  refine L_y rfl (y_pick_f rfl rfl) rfl ?_
  refine L_nil ?_
  refine C_cond_f rfl ?_
  refine C_skip ?_
  refine C_seq ?_
  refine C_seq ?_
  refine C_region ?_
  refine L_y rfl (y_move rfl) rfl ?_
  refine L_y rfl (y_not rfl) rfl ?_
  refine L_y rfl (y_move rfl) rfl ?_
  refine L_y rfl (y_move rfl) rfl ?_
  refine L_y rfl (y_geq rfl rfl) rfl ?_
  refine L_y rfl (y_pick_t rfl rfl) rfl ?_
  refine L_nil ?_
  refine C_cond rfl (fun hc3 => ?_) (fun hc3 => absurd hc3 (by simp))
  refine C_seq ?_
  refine C_region ?_
  refine L_y rfl (y_move rfl) rfl ?_
  refine L_y rfl (y_assign rfl) rfl ?_
  refine L_y rfl (y_assign rfl) rfl ?_
  refine L_nil ?_
  refine C_ret ?_
  refine B_ret (rv_tmp rfl (rv_tmp rfl rv_nil)) ((hsub (.cons_cons _ (.refl _))).trans (hsub_pick [0] rfl)) ?_
  have e4 : xput segs size l n a false = (l, 5) := by simp [xput, *]
  rw [e4]
  exact ⟨g, hok, rfl, rfl⟩

set_option maxHeartbeats 1000000 in

theorem put18_py {w0 : World} {H : Hp} {l : Xl} {g : Option SlG} (hok : slOk 2 g l.length (lcs l)) (hl : l.length < 1000000) (segs size : Int) (n : Nat) (a : Int) (h0 : n ≠ 0) {s : Int} (ho : ofS segs size a = some s) (hf : xfind l n = none) : FnS Try.prog w0 77 #[slV g l.length, .int .i64 segs, .int .i64 size, .int .u64 (n : Int), .int .i64 a, .bool false] (slSeg 79 g (lcs l) :: H) (fun e H' => ∃ g2, slOk 2 g2 (xput segs size l n a false).1.length (lcs (xput segs size l n a false).1) ∧ e = .returned (.tuple #[slV g2 (xput segs size l n a false).1.length, .int .i64 (xput segs size l n a false).2]) ∧ H' = slSeg 79 g2 (lcs (xput segs size l n a false).1) :: H) := by
  have hs0 := (ofS_spec ho).2.2.2.2.1
  refine FnS_intro (n := 86) (rs := [.tmp 12, .tmp 13]) (vs := [slV g l.length, .int .i64 segs, .int .i64 size, .int .u64 (n : Int), .int .i64 a, .bool false]) Try.func77 rfl Try.ntmps77 rfl rfl ?_
  refine C_seq ?_
  refine C_region ?_
  refine L_y rfl (y_assign rfl) rfl ?_
  refine L_y rfl (y_assign rfl) rfl ?_
  refine L_nil ?_
  refine C_seq ?_
  refine C_seq ?_
  refine C_region ?_
  refine L_y rfl (y_move rfl) rfl ?_
  refine L_y rfl (y_eqi rfl rfl) rfl ?_
  refine L_nil ?_
  refine C_cond rfl (fun hc0 => absurd hc0 (by simp <;> omega)) (fun hc0 => ?_)
  refine C_skip ?_
  refine C_seq ?_
  refine C_seq ?_
  refine C_region ?_
  refine L_y rfl (y_move rfl) rfl ?_
  refine L_y rfl (y_move rfl) rfl ?_
  refine L_y rfl (y_move rfl) rfl ?_
  refine L_op rfl (op_call rfl rfl (fun a w => Try.call84 a w) rfl ?_)
  refine (seg18_s segs size a).mono ?_
  rintro _ _ ⟨rfl, e⟩
  obtain rfl := e.symm
  clear e
  rw [show seg18 segs size a = s from by unfold seg18; rw [ho]]
  refine ⟨_, rfl, ?_⟩
  refine L_y rfl (y_lss rfl rfl) rfl ?_
  refine L_nil ?_
  refine C_cond rfl (fun hc1 => absurd hc1 (by simp <;> omega)) (fun hc1 => ?_)
  refine C_skip ?_
  refine C_seq ?_
  refine C_region ?_
  refine L_y rfl (y_move rfl) rfl ?_
  refine L_y rfl (y_move rfl) rfl ?_
  refine L_op rfl (op_call rfl rfl (fun a w => Try.call38 a w) rfl ?_)
  refine (find18_s (g := g) hok hl n).mono ?_
  rintro _ _ ⟨rfl, rfl⟩
  rw [fnd_none hf]
  refine ⟨_, rfl, ?_⟩
  refine L_y rfl (y_assign rfl) rfl ?_
  refine L_nil ?_
  refine C_seq ?_
  refine C_seq ?_
  refine C_region ?_
  refine L_y rfl (y_move rfl) rfl ?_
  refine L_y rfl (y_move rfl) rfl ?_
  refine L_skip rfl rfl ?_
  refine L_skip rfl rfl ?_
  refine L_y rfl (y_pick_f rfl rfl) rfl ?_
  refine L_nil ?_
  refine C_cond_f rfl ?_
  refine C_skip ?_
  refine C_seq ?_
  refine C_seq ?_
  refine C_region ?_
  refine L_y rfl (y_move rfl) rfl ?_
  refine L_y rfl (y_not rfl) rfl ?_
  refine L_y rfl (y_move rfl) rfl ?_
  refine L_y rfl (y_move rfl) rfl ?_
  refine L_y rfl (y_geq rfl rfl) rfl ?_
  refine L_y rfl (y_pick_t rfl rfl) rfl ?_
  refine L_nil ?_
  refine C_cond_f rfl ?_
  refine C_skip ?_
  refine C_seq ?_
  refine C_seq ?_
  refine C_region ?_
  refine L_y rfl (y_move rfl) rfl ?_
  refine L_nil ?_
  refine C_cond_f rfl ?_
  refine C_skip ?_
  refine C_seq ?_
  refine C_region ?_
  refine L_y rfl (y_assign rfl) rfl ?_
  refine L_nil ?_
  refine C_seq ?_
  refine C_region ?_
  refine L_y rfl (y_assign rfl) rfl ?_
  refine L_nil ?_
  refine C_seq ?_
  refine C_seq ?_
  refine C_region ?_
  refine L_y rfl (y_assign rfl) rfl ?_
  refine L_nil ?_
  refine C_block ?_
  refine C_loop (ι := Nat × Option SlG) (fun i => [(0, slV g l.length), (3, .int .u64 (n : Int)), (4, .int .i64 a), (15, slV i.2 (outI l n a i.1).length), (16, .bool (big l n i.1)), (17, .int .i64 (i.1 : Int))]) (fun i => slSeg 79 i.2 (lcs (outI l n a i.1)) :: slSeg 79 g (lcs l) :: H) (fun i => i.1 ≤ l.length ∧ slOk 2 i.2 (outI l n a i.1).length (lcs (outI l n a i.1))) (fun i => l.length - i.1) (0, none) ⟨Nat.zero_le _, by rw [outI_0]; exact ⟨rfl, rfl⟩⟩ (by rw [outI_0]; exact ⟨rfl, rfl, rfl, rfl, rfl, rfl, trivial⟩) (by rw [outI_0]; exact hsub_flat rfl) (fun i hi => ?_)
  obtain ⟨i, g3⟩ := i
  obtain ⟨hi, hok3⟩ := hi
  try simp only at hi hok3
  try dsimp only
  refine C_seq ?_
  refine C_seq ?_
  refine C_region ?_
  refine L_y rfl (y_move rfl) rfl ?_
  refine L_y rfl (y_move rfl) rfl ?_
  refine L_y rfl (y_lenV hok rfl rfl Try.underlying67) rfl ?_
  refine L_y rfl (y_lss rfl rfl) rfl ?_
  refine L_nil ?_
  refine C_cond rfl (fun hc5 => ?_) (fun hc5 => ?_)
  · replace hc5 : i < l.length := by have := of_decide_eq_true hc5; omega
    obtain ⟨x, hx⟩ : ∃ x, l[i]? = some x := ⟨_, List.getElem?_eq_getElem hc5⟩
    cases g with
    | none => exact absurd (show l.length = 0 from hok.2) (by omega)
    | some g => ?_
    refine C_skip ?_
    refine C_seq ?_
    refine C_block ?_
    refine C_seq ?_
    refine C_seq ?_
    refine C_region ?_
    refine L_y rfl (y_move rfl) rfl ?_
    refine L_y rfl (y_not rfl) rfl ?_
    refine L_y rfl (y_move rfl) rfl ?_
    refine L_case 55 rfl (fun hg17_3 => ?_) (fun hg17_3 => ?_)
    · have hb : big l n i = false := by simpa using hg17_3
      refine L_y rfl (y_move rfl) rfl ?_
      refine L_y rfl (y_move rfl) rfl ?_
      refine L_y rfl (y_indexS rfl rfl Try.underlying67 sz_79 (by omega) (by omega) (show _ = i * 2 from by simp)) rfl ?_
      refine L_y rfl (y_fieldAddr rfl fl_79_0) rfl ?_
      refine L_y rfl (y_load rfl ag_58 (sees 1 0 rfl) (lcs_at hx).1) rfl ?_
      refine L_y rfl (y_move rfl) rfl ?_
      refine L_y rfl (y_gtr rfl rfl) rfl ?_
      refine L_y rfl (y_pick_t rfl rfl) rfl ?_
      refine L_nil ?_
      refine C_cond rfl (fun hc6 => ?_) (fun hc6 => ?_)
      · have hlt : n < x.1 := by have := of_decide_eq_true hc6; omega
        refine C_seq ?_
        refine C_region ?_
        refine L_y rfl (y_move rfl) rfl ?_
        refine L_y rfl (y_move rfl) rfl ?_
        refine L_y rfl (y_move rfl) rfl ?_
        refine L_y rfl (y_build (vs := [(0, _), (1, _)]) (l := [.int .u64 (n : Int), .int .i64 a]) rfl pl_79 zl_79 (fill_cons (off := 0) (m := 1) (vs := [_]) rfl rfl rfl (Nat.le_of_ble_eq_true rfl) (fill_cons (off := 1) (m := 1) (vs := [_]) rfl rfl rfl (Nat.le_of_ble_eq_true rfl) rfl))) rfl ?_
        refine L_op rfl (op_buildSlice (vs := [(0, _)]) rfl Try.underlying67 sz_79 zl_79 rfl (by decide) (fill_one rfl rfl rfl) rfl (fun B1 => ?_))
        refine L_op rfl (op_append (gs := g3) (len := ((outI l n a i)).length) (m := 1) (xs := lcs ((outI l n a i))) (vs := lcs [(n, a)]) 1 rfl rfl rfl hok3 (src_slice (sees 0 0 rfl) (Nat.le_of_ble_eq_true rfl) rfl) rfl (lcs_one _) Try.underlying67 ni_67 sz_79 by_79 (by decide) zl_79 rfl (by have := out_len (n := n) (a := a) hi; first | omega | (simp only [List.length_append, List.length_cons, List.length_nil]; omega)) rfl (fun g4 hg4 => ?_))
        rw [← lcs_append, show ((outI l n a i)).length + 1 = ((outI l n a i) ++ [(n, a)]).length from by simp] at hg4 ⊢
        refine L_y rfl (y_assign rfl) rfl ?_
        refine L_nil ?_
        refine C_region ?_
        refine L_y rfl (y_assign rfl) rfl ?_
        refine L_nil ?_
        refine C_region ?_
        refine L_y rfl (y_move rfl) rfl ?_
        refine L_y rfl (y_move rfl) rfl ?_
        refine L_y rfl (y_move rfl) rfl ?_
        refine L_y rfl (y_indexS rfl rfl Try.underlying67 sz_79 (by omega) (by omega) (show _ = i * 2 from by simp)) rfl ?_
        refine L_y rfl (y_loadA rfl ag_79 sz_79 (sees 2 0 rfl) (by rw [List.length_append, lcs_len]; omega) (lcs_at hx).2.2) rfl ?_
        refine L_op rfl (op_buildSlice (vs := [(0, _)]) rfl Try.underlying67 sz_79 zl_79 rfl (by decide) (fill_one rfl rfl rfl) rfl (fun B2 => ?_))
        refine L_op rfl (op_append (gs := g4) (len := ((outI l n a i) ++ [(n, a)]).length) (m := 1) (xs := lcs ((outI l n a i) ++ [(n, a)])) (vs := lcs [x]) 2 rfl rfl rfl hg4 (src_slice (sees 0 0 rfl) (Nat.le_of_ble_eq_true rfl) rfl) rfl (lcs_one _) Try.underlying67 ni_67 sz_79 by_79 (by decide) zl_79 rfl (by have := out_len (n := n) (a := a) hi; first | omega | (simp only [List.length_append, List.length_cons, List.length_nil]; omega)) rfl (fun g5 hg5 => ?_))
        rw [← lcs_append, show ((outI l n a i) ++ [(n, a)]).length + 1 = ((outI l n a i) ++ [(n, a)] ++ [x]).length from by simp] at hg5 ⊢
        refine L_y rfl (y_assign rfl) rfl ?_
        refine L_nil ?_
        refine C_region ?_
        refine L_y rfl (y_move rfl) rfl ?_
        refine L_y rfl (y_add rfl rfl (show _ = ((i + 1 : Nat) : Int) from by rw [wi64 (by omega) (by omega)]; omega)) rfl ?_
        refine L_y rfl (y_assign rfl) rfl ?_
        refine L_nil ?_
        have e1 : big l n (i + 1) = true := by rw [big_next hx, decide_eq_true hlt, Bool.or_true]
        have e2 := out_first (a := a) hb hx hlt
        refine ⟨(i + 1, g5), ⟨by simp only; omega, ?_⟩, by simp only; omega, ?_⟩ <;> try simp only
        · rw [e2]; exact hg5
        · rw [e1, e2]
          exact ⟨⟨rfl, rfl, rfl, rfl, rfl, rfl, trivial⟩, ((hsub (.cons_cons _ (.cons_cons _ (.cons _ (.cons _ (.refl _)))))).trans (hsub_pick [2, 2] rfl))⟩
      · have hlt : ¬ n < x.1 := by have := of_decide_eq_false hc6; omega
        refine C_skip ?_
        refine C_region ?_
        refine L_y rfl (y_move rfl) rfl ?_
        refine L_y rfl (y_move rfl) rfl ?_
        refine L_y rfl (y_move rfl) rfl ?_
        refine L_y rfl (y_indexS rfl rfl Try.underlying67 sz_79 (by omega) (by omega) (show _ = i * 2 from by simp)) rfl ?_
        refine L_y rfl (y_loadA rfl ag_79 sz_79 (sees 1 0 rfl) (by rw [List.length_append, lcs_len]; omega) (lcs_at hx).2.2) rfl ?_
        refine L_op rfl (op_buildSlice (vs := [(0, _)]) rfl Try.underlying67 sz_79 zl_79 rfl (by decide) (fill_one rfl rfl rfl) rfl (fun B3 => ?_))
        refine L_op rfl (op_append (gs := g3) (len := ((outI l n a i)).length) (m := 1) (xs := lcs ((outI l n a i))) (vs := lcs [x]) 1 rfl rfl rfl hok3 (src_slice (sees 0 0 rfl) (Nat.le_of_ble_eq_true rfl) rfl) rfl (lcs_one _) Try.underlying67 ni_67 sz_79 by_79 (by decide) zl_79 rfl (by have := out_len (n := n) (a := a) hi; first | omega | (simp only [List.length_append, List.length_cons, List.length_nil]; omega)) rfl (fun g5 hg5 => ?_))
        rw [← lcs_append, show ((outI l n a i)).length + 1 = ((outI l n a i) ++ [x]).length from by simp] at hg5 ⊢
        refine L_y rfl (y_assign rfl) rfl ?_
        refine L_nil ?_
        refine C_region ?_
        refine L_y rfl (y_move rfl) rfl ?_
        refine L_y rfl (y_add rfl rfl (show _ = ((i + 1 : Nat) : Int) from by rw [wi64 (by omega) (by omega)]; omega)) rfl ?_
        refine L_y rfl (y_assign rfl) rfl ?_
        refine L_nil ?_
        have e1 : big l n (i + 1) = big l n i := by rw [big_next hx]; first | rw [decide_eq_false hlt, Bool.or_false] | (rw [hb]; rfl)
        have e2 : (outI l n a (i + 1)) = (outI l n a i) ++ [x] := by first | exact out_more hb hx | exact out_not hb hx hlt
        refine ⟨(i + 1, g5), ⟨by simp only; omega, ?_⟩, by simp only; omega, ?_⟩ <;> try simp only
        · rw [e2]; exact hg5
        · rw [e1, e2]
          exact ⟨⟨rfl, rfl, rfl, rfl, rfl, rfl, trivial⟩, ((hsub (.cons_cons _ (.cons_cons _ (.cons _ (.refl _))))).trans (hsub_pick [1, 1] rfl))⟩
    · have hb : big l n i = true := by simpa using hg17_3
      refine L_skip rfl rfl ?_
      refine L_skip rfl rfl ?_
      refine L_skip rfl rfl ?_
      refine L_skip rfl rfl ?_
      refine L_skip rfl rfl ?_
      refine L_skip rfl rfl ?_
      refine L_skip rfl rfl ?_
      refine L_y rfl (y_pick_f rfl rfl) rfl ?_
      refine L_nil ?_
      refine C_cond_f rfl ?_
      refine C_skip ?_
      refine C_region ?_
      refine L_y rfl (y_move rfl) rfl ?_
      refine L_y rfl (y_move rfl) rfl ?_
      refine L_y rfl (y_move rfl) rfl ?_
      refine L_y rfl (y_indexS rfl rfl Try.underlying67 sz_79 (by omega) (by omega) (show _ = i * 2 from by simp)) rfl ?_
      refine L_y rfl (y_loadA rfl ag_79 sz_79 (sees 1 0 rfl) (by rw [List.length_append, lcs_len]; omega) (lcs_at hx).2.2) rfl ?_
      refine L_op rfl (op_buildSlice (vs := [(0, _)]) rfl Try.underlying67 sz_79 zl_79 rfl (by decide) (fill_one rfl rfl rfl) rfl (fun B4 => ?_))
      refine L_op rfl (op_append (gs := g3) (len := ((outI l n a i)).length) (m := 1) (xs := lcs ((outI l n a i))) (vs := lcs [x]) 1 rfl rfl rfl hok3 (src_slice (sees 0 0 rfl) (Nat.le_of_ble_eq_true rfl) rfl) rfl (lcs_one _) Try.underlying67 ni_67 sz_79 by_79 (by decide) zl_79 rfl (by have := out_len (n := n) (a := a) hi; first | omega | (simp only [List.length_append, List.length_cons, List.length_nil]; omega)) rfl (fun g5 hg5 => ?_))
      rw [← lcs_append, show ((outI l n a i)).length + 1 = ((outI l n a i) ++ [x]).length from by simp] at hg5 ⊢
      refine L_y rfl (y_assign rfl) rfl ?_
      refine L_nil ?_
      refine C_region ?_
      refine L_y rfl (y_move rfl) rfl ?_
      refine L_y rfl (y_add rfl rfl (show _ = ((i + 1 : Nat) : Int) from by rw [wi64 (by omega) (by omega)]; omega)) rfl ?_
      refine L_y rfl (y_assign rfl) rfl ?_
      refine L_nil ?_
      have e1 : big l n (i + 1) = big l n i := by rw [big_next hx]; first | rw [decide_eq_false hlt, Bool.or_false] | (rw [hb]; rfl)
      have e2 : (outI l n a (i + 1)) = (outI l n a i) ++ [x] := by first | exact out_more hb hx | exact out_not hb hx hlt
      refine ⟨(i + 1, g5), ⟨by simp only; omega, ?_⟩, by simp only; omega, ?_⟩ <;> try simp only
      · rw [e2]; exact hg5
      · rw [e1, e2]
        exact ⟨⟨rfl, rfl, rfl, rfl, rfl, rfl, trivial⟩, ((hsub (.cons_cons _ (.cons_cons _ (.cons _ (.refl _))))).trans (hsub_pick [1, 1] rfl))⟩
  · obtain rfl : i = l.length := by have := of_decide_eq_false hc5; omega
    refine C_exit ?_
    refine C_seq ?_
    refine C_seq ?_
    refine C_region ?_
    refine L_y rfl (y_move rfl) rfl ?_
    refine L_y rfl (y_not rfl) rfl ?_
    refine L_nil ?_
    refine C_cond rfl (fun hc7 => ?_) (fun hc7 => ?_)
    · have hb : big l n l.length = false := by simpa using hc7
      refine C_region ?_
      refine L_y rfl (y_move rfl) rfl ?_
      refine L_y rfl (y_move rfl) rfl ?_
      refine L_y rfl (y_move rfl) rfl ?_
      refine L_y rfl (y_build (vs := [(0, _), (1, _)]) (l := [.int .u64 (n : Int), .int .i64 a]) rfl pl_79 zl_79 (fill_cons (off := 0) (m := 1) (vs := [_]) rfl rfl rfl (Nat.le_of_ble_eq_true rfl) (fill_cons (off := 1) (m := 1) (vs := [_]) rfl rfl rfl (Nat.le_of_ble_eq_true rfl) rfl))) rfl ?_
      refine L_op rfl (op_buildSlice (vs := [(0, _)]) rfl Try.underlying67 sz_79 zl_79 rfl (by decide) (fill_one rfl rfl rfl) rfl (fun B5 => ?_))
      refine L_op rfl (op_append (gs := g3) (len := ((outI l n a l.length)).length) (m := 1) (xs := lcs ((outI l n a l.length))) (vs := lcs [(n, a)]) 1 rfl rfl rfl hok3 (src_slice (sees 0 0 rfl) (Nat.le_of_ble_eq_true rfl) rfl) rfl (lcs_one _) Try.underlying67 ni_67 sz_79 by_79 (by decide) zl_79 rfl (by have := out_len (n := n) (a := a) hi; first | omega | (simp only [List.length_append, List.length_cons, List.length_nil]; omega)) rfl (fun g4 hg4 => ?_))
      rw [← lcs_append, show ((outI l n a l.length)).length + 1 = ((outI l n a l.length) ++ [(n, a)]).length from by simp] at hg4 ⊢
      refine L_y rfl (y_assign rfl) rfl ?_
      refine L_nil ?_
      refine C_seq ?_
      refine C_region ?_
      refine L_y rfl (y_move rfl) rfl ?_
      refine L_y rfl (y_assign rfl) rfl ?_
      refine L_y rfl (y_assign rfl) rfl ?_
      refine L_nil ?_
      refine C_ret ?_
      refine B_ret (rv_tmp rfl (rv_tmp rfl rv_nil)) ((hsub (.cons_cons _ (.cons _ (.cons _ (.refl _))))).trans (hsub_pick [1] rfl)) ?_
      have e4 : xput segs size l n a false = (xins l n a, 0) := by simp [xput, *]
      rw [e4]
      have e6 := out_end (a := a) hb
      rw [e6] at hg4
      refine ⟨g4, hg4, ?_, ?_⟩
      · rw [e6] <;> rfl
      · rw [e6] <;> rfl
    · have hb : big l n l.length = true := by simpa using hc7
      refine C_skip ?_
      refine C_seq ?_
      refine C_region ?_
      refine L_y rfl (y_move rfl) rfl ?_
      refine L_y rfl (y_assign rfl) rfl ?_
      refine L_y rfl (y_assign rfl) rfl ?_
      refine L_nil ?_
      refine C_ret ?_
      refine B_ret (rv_tmp rfl (rv_tmp rfl rv_nil)) ((hsub (.cons_cons _ (.cons _ (.refl _)))).trans (hsub_pick [0] rfl)) ?_
      have e4 : xput segs size l n a false = (xins l n a, 0) := by simp [xput, *]
      rw [e4]
      have e6 := out_done (a := a) hb
      rw [e6] at hok3
      refine ⟨g3, hok3, ?_, ?_⟩
      · rw [e6] <;> rfl
      · rw [e6] <;> rfl

set_option maxHeartbeats 1000000 in

theorem put18_my {w0 : World} {H : Hp} {l : Xl} {g : SlG} (hok : slOk 2 (some g) l.length (lcs l)) (hl : l.length < 1000000) (segs size : Int) (n : Nat) (a : Int) (h0 : n ≠ 0) {s : Int} (ho : ofS segs size a = some s) {q : Int} {k : Nat} (hf : xfind l n = some q) (hk : fnd l n = (k : Int)) (hkl : k < l.length) (hdel : xdel l n = l.take k ++ l.drop (k + 1)) : FnS Try.prog w0 77 #[slV (some g) l.length, .int .i64 segs, .int .i64 size, .int .u64 (n : Int), .int .i64 a, .bool true] (slSeg 79 (some g) (lcs l) :: H) (fun e H' => ∃ g2, slOk 2 g2 (xput segs size l n a true).1.length (lcs (xput segs size l n a true).1) ∧ e = .returned (.tuple #[slV g2 (xput segs size l n a true).1.length, .int .i64 (xput segs size l n a true).2]) ∧ H' = slSeg 79 g2 (lcs (xput segs size l n a true).1) :: H) := by
  have hs0 := (ofS_spec ho).2.2.2.2.1
  have hdl : (xdel l n).length ≤ l.length := List.length_filter_le _ _
  refine FnS_intro (n := 86) (rs := [.tmp 12, .tmp 13]) (vs := [slV (some g) l.length, .int .i64 segs, .int .i64 size, .int .u64 (n : Int), .int .i64 a, .bool true]) Try.func77 rfl Try.ntmps77 rfl rfl ?_
  refine C_seq ?_
  refine C_region ?_
  refine L_y rfl (y_assign rfl) rfl ?_
  refine L_y rfl (y_assign rfl) rfl ?_
  refine L_nil ?_
  refine C_seq ?_
  refine C_seq ?_
  refine C_region ?_
  refine L_y rfl (y_move rfl) rfl ?_
  refine L_y rfl (y_eqi rfl rfl) rfl ?_
  refine L_nil ?_
  refine C_cond rfl (fun hc0 => absurd hc0 (by simp <;> omega)) (fun hc0 => ?_)
  refine C_skip ?_
  refine C_seq ?_
  refine C_seq ?_
  refine C_region ?_
  refine L_y rfl (y_move rfl) rfl ?_
  refine L_y rfl (y_move rfl) rfl ?_
  refine L_y rfl (y_move rfl) rfl ?_
  refine L_op rfl (op_call rfl rfl (fun a w => Try.call84 a w) rfl ?_)
  refine (seg18_s segs size a).mono ?_
  rintro _ _ ⟨rfl, e⟩
  obtain rfl := e.symm
  clear e
  rw [show seg18 segs size a = s from by unfold seg18; rw [ho]]
  refine ⟨_, rfl, ?_⟩
  refine L_y rfl (y_lss rfl rfl) rfl ?_
  refine L_nil ?_
  refine C_cond rfl (fun hc1 => absurd hc1 (by simp <;> omega)) (fun hc1 => ?_)
  refine C_skip ?_
  refine C_seq ?_
  refine C_region ?_
  refine L_y rfl (y_move rfl) rfl ?_
  refine L_y rfl (y_move rfl) rfl ?_
  refine L_op rfl (op_call rfl rfl (fun a w => Try.call38 a w) rfl ?_)
  refine (find18_s (g := (some g)) hok hl n).mono ?_
  rintro _ _ ⟨rfl, rfl⟩
  rw [hk]
  refine ⟨_, rfl, ?_⟩
  refine L_y rfl (y_assign rfl) rfl ?_
  refine L_nil ?_
  refine C_seq ?_
  refine C_seq ?_
  refine C_region ?_
  refine L_y rfl (y_move rfl) rfl ?_
  refine L_y rfl (y_move rfl) rfl ?_
  refine L_y rfl (y_move rfl) rfl ?_
  refine L_y rfl (y_lss rfl rfl) rfl ?_
  refine L_y rfl (y_pick_t rfl rfl) rfl ?_
  refine L_nil ?_
  refine C_cond rfl (fun hc2 => absurd hc2 (by simp)) (fun hc2 => ?_)
  refine C_skip ?_
  refine C_seq ?_
  refine C_seq ?_
  refine C_region ?_
  refine L_y rfl (y_move rfl) rfl ?_
  refine L_y rfl (y_not rfl) rfl ?_
  refine L_y rfl (y_move rfl) rfl ?_
  refine L_skip rfl rfl ?_
  refine L_skip rfl rfl ?_
  refine L_y rfl (y_pick_f rfl rfl) rfl ?_
  refine L_nil ?_
  refine C_cond_f rfl ?_
  refine C_skip ?_
  refine C_seq ?_
  refine C_seq ?_
  refine C_region ?_
  refine L_y rfl (y_move rfl) rfl ?_
  refine L_nil ?_
  refine C_cond_t rfl ?_
  refine C_region ?_
  refine L_y rfl (y_move rfl) rfl ?_
  refine L_y rfl (y_move rfl) rfl ?_
  refine L_op rfl (op_call rfl rfl (fun a w => Try.call97 a w) rfl ?_)
  refine (without18_s hok hl k hkl).mono ?_
  rintro _ _ ⟨gw, hgw, rfl, rfl⟩
  rw [← hdel] at hgw ⊢
  refine ⟨_, rfl, ?_⟩
  refine L_y rfl (y_assign rfl) rfl ?_
  refine L_nil ?_
  refine C_seq ?_
  refine C_region ?_
  refine L_y rfl (y_assign rfl) rfl ?_
  refine L_nil ?_
  refine C_seq ?_
  refine C_region ?_
  refine L_y rfl (y_assign rfl) rfl ?_
  refine L_nil ?_
  refine C_seq ?_
  refine C_seq ?_
  refine C_region ?_
  refine L_y rfl (y_assign rfl) rfl ?_
  refine L_nil ?_
  refine C_block ?_
  refine C_loop (ι := Nat × Option SlG) (fun i => [(0, slV gw (xdel l n).length), (3, .int .u64 (n : Int)), (4, .int .i64 a), (15, slV i.2 (outI (xdel l n) n a i.1).length), (16, .bool (big (xdel l n) n i.1)), (17, .int .i64 (i.1 : Int))]) (fun i => slSeg 79 i.2 (lcs (outI (xdel l n) n a i.1)) :: slSeg 79 gw (lcs (xdel l n)) :: slSeg 79 (some g) (lcs l) :: H) (fun i => i.1 ≤ (xdel l n).length ∧ slOk 2 i.2 (outI (xdel l n) n a i.1).length (lcs (outI (xdel l n) n a i.1))) (fun i => (xdel l n).length - i.1) (0, none) ⟨Nat.zero_le _, by rw [outI_0]; exact ⟨rfl, rfl⟩⟩ (by rw [outI_0]; exact ⟨rfl, rfl, rfl, rfl, rfl, rfl, trivial⟩) (by rw [outI_0]; exact hsub_flat rfl) (fun i hi => ?_)
  obtain ⟨i, g3⟩ := i
  obtain ⟨hi, hok3⟩ := hi
  try simp only at hi hok3
  try dsimp only
  refine C_seq ?_
  refine C_seq ?_
  refine C_region ?_
  refine L_y rfl (y_move rfl) rfl ?_
  refine L_y rfl (y_move rfl) rfl ?_
  refine L_y rfl (y_lenV hgw rfl rfl Try.underlying67) rfl ?_
  refine L_y rfl (y_lss rfl rfl) rfl ?_
  refine L_nil ?_
  refine C_cond rfl (fun hc5 => ?_) (fun hc5 => ?_)
  · replace hc5 : i < (xdel l n).length := by have := of_decide_eq_true hc5; omega
    obtain ⟨x, hx⟩ : ∃ x, (xdel l n)[i]? = some x := ⟨_, List.getElem?_eq_getElem hc5⟩
    cases gw with
    | none => exact absurd (show (xdel l n).length = 0 from hgw.2) (by omega)
    | some gw => ?_
    refine C_skip ?_
    refine C_seq ?_
    refine C_block ?_
    refine C_seq ?_
    refine C_seq ?_
    refine C_region ?_
    refine L_y rfl (y_move rfl) rfl ?_
    refine L_y rfl (y_not rfl) rfl ?_
    refine L_y rfl (y_move rfl) rfl ?_
    refine L_case 55 rfl (fun hg17_3 => ?_) (fun hg17_3 => ?_)
    · have hb : big (xdel l n) n i = false := by simpa using hg17_3
      refine L_y rfl (y_move rfl) rfl ?_
      refine L_y rfl (y_move rfl) rfl ?_
      refine L_y rfl (y_indexS rfl rfl Try.underlying67 sz_79 (by omega) (by omega) (show _ = i * 2 from by simp)) rfl ?_
      refine L_y rfl (y_fieldAddr rfl fl_79_0) rfl ?_
      refine L_y rfl (y_load rfl ag_58 (sees 1 0 rfl) (lcs_at hx).1) rfl ?_
      refine L_y rfl (y_move rfl) rfl ?_
      refine L_y rfl (y_gtr rfl rfl) rfl ?_
      refine L_y rfl (y_pick_t rfl rfl) rfl ?_
      refine L_nil ?_
      refine C_cond rfl (fun hc6 => ?_) (fun hc6 => ?_)
      · have hlt : n < x.1 := by have := of_decide_eq_true hc6; omega
        refine C_seq ?_
        refine C_region ?_
        refine L_y rfl (y_move rfl) rfl ?_
        refine L_y rfl (y_move rfl) rfl ?_
        refine L_y rfl (y_move rfl) rfl ?_
        refine L_y rfl (y_build (vs := [(0, _), (1, _)]) (l := [.int .u64 (n : Int), .int .i64 a]) rfl pl_79 zl_79 (fill_cons (off := 0) (m := 1) (vs := [_]) rfl rfl rfl (Nat.le_of_ble_eq_true rfl) (fill_cons (off := 1) (m := 1) (vs := [_]) rfl rfl rfl (Nat.le_of_ble_eq_true rfl) rfl))) rfl ?_
        refine L_op rfl (op_buildSlice (vs := [(0, _)]) rfl Try.underlying67 sz_79 zl_79 rfl (by decide) (fill_one rfl rfl rfl) rfl (fun B1 => ?_))
        refine L_op rfl (op_append (gs := g3) (len := ((outI (xdel l n) n a i)).length) (m := 1) (xs := lcs ((outI (xdel l n) n a i))) (vs := lcs [(n, a)]) 1 rfl rfl rfl hok3 (src_slice (sees 0 0 rfl) (Nat.le_of_ble_eq_true rfl) rfl) rfl (lcs_one _) Try.underlying67 ni_67 sz_79 by_79 (by decide) zl_79 rfl (by have := out_len (n := n) (a := a) hi; first | omega | (simp only [List.length_append, List.length_cons, List.length_nil]; omega)) rfl (fun g4 hg4 => ?_))
        rw [← lcs_append, show ((outI (xdel l n) n a i)).length + 1 = ((outI (xdel l n) n a i) ++ [(n, a)]).length from by simp] at hg4 ⊢
        refine L_y rfl (y_assign rfl) rfl ?_
        refine L_nil ?_
        refine C_region ?_
        refine L_y rfl (y_assign rfl) rfl ?_
        refine L_nil ?_
        refine C_region ?_
        refine L_y rfl (y_move rfl) rfl ?_
        refine L_y rfl (y_move rfl) rfl ?_
        refine L_y rfl (y_move rfl) rfl ?_
        refine L_y rfl (y_indexS rfl rfl Try.underlying67 sz_79 (by omega) (by omega) (show _ = i * 2 from by simp)) rfl ?_
        refine L_y rfl (y_loadA rfl ag_79 sz_79 (sees 2 0 rfl) (by rw [List.length_append, lcs_len]; omega) (lcs_at hx).2.2) rfl ?_
        refine L_op rfl (op_buildSlice (vs := [(0, _)]) rfl Try.underlying67 sz_79 zl_79 rfl (by decide) (fill_one rfl rfl rfl) rfl (fun B2 => ?_))
        refine L_op rfl (op_append (gs := g4) (len := ((outI (xdel l n) n a i) ++ [(n, a)]).length) (m := 1) (xs := lcs ((outI (xdel l n) n a i) ++ [(n, a)])) (vs := lcs [x]) 2 rfl rfl rfl hg4 (src_slice (sees 0 0 rfl) (Nat.le_of_ble_eq_true rfl) rfl) rfl (lcs_one _) Try.underlying67 ni_67 sz_79 by_79 (by decide) zl_79 rfl (by have := out_len (n := n) (a := a) hi; first | omega | (simp only [List.length_append, List.length_cons, List.length_nil]; omega)) rfl (fun g5 hg5 => ?_))
        rw [← lcs_append, show ((outI (xdel l n) n a i) ++ [(n, a)]).length + 1 = ((outI (xdel l n) n a i) ++ [(n, a)] ++ [x]).length from by simp] at hg5 ⊢
        refine L_y rfl (y_assign rfl) rfl ?_
        refine L_nil ?_
        refine C_region ?_
        refine L_y rfl (y_move rfl) rfl ?_
        refine L_y rfl (y_add rfl rfl (show _ = ((i + 1 : Nat) : Int) from by rw [wi64 (by omega) (by omega)]; omega)) rfl ?_
        refine L_y rfl (y_assign rfl) rfl ?_
        refine L_nil ?_
        have e1 : big (xdel l n) n (i + 1) = true := by rw [big_next hx, decide_eq_true hlt, Bool.or_true]
        have e2 := out_first (a := a) hb hx hlt
        refine ⟨(i + 1, g5), ⟨by simp only; omega, ?_⟩, by simp only; omega, ?_⟩ <;> try simp only
        · rw [e2]; exact hg5
        · rw [e1, e2]
          exact ⟨⟨rfl, rfl, rfl, rfl, rfl, rfl, trivial⟩, ((hsub (.cons_cons _ (.cons_cons _ (.cons_cons _ (.cons _ (.cons _ (.refl _))))))).trans (hsub_pick [2, 2, 2] rfl))⟩
      · have hlt : ¬ n < x.1 := by have := of_decide_eq_false hc6; omega
        refine C_skip ?_
        refine C_region ?_
        refine L_y rfl (y_move rfl) rfl ?_
        refine L_y rfl (y_move rfl) rfl ?_
        refine L_y rfl (y_move rfl) rfl ?_
        refine L_y rfl (y_indexS rfl rfl Try.underlying67 sz_79 (by omega) (by omega) (show _ = i * 2 from by simp)) rfl ?_
        refine L_y rfl (y_loadA rfl ag_79 sz_79 (sees 1 0 rfl) (by rw [List.length_append, lcs_len]; omega) (lcs_at hx).2.2) rfl ?_
        refine L_op rfl (op_buildSlice (vs := [(0, _)]) rfl Try.underlying67 sz_79 zl_79 rfl (by decide) (fill_one rfl rfl rfl) rfl (fun B3 => ?_))
        refine L_op rfl (op_append (gs := g3) (len := ((outI (xdel l n) n a i)).length) (m := 1) (xs := lcs ((outI (xdel l n) n a i))) (vs := lcs [x]) 1 rfl rfl rfl hok3 (src_slice (sees 0 0 rfl) (Nat.le_of_ble_eq_true rfl) rfl) rfl (lcs_one _) Try.underlying67 ni_67 sz_79 by_79 (by decide) zl_79 rfl (by have := out_len (n := n) (a := a) hi; first | omega | (simp only [List.length_append, List.length_cons, List.length_nil]; omega)) rfl (fun g5 hg5 => ?_))
        rw [← lcs_append, show ((outI (xdel l n) n a i)).length + 1 = ((outI (xdel l n) n a i) ++ [x]).length from by simp] at hg5 ⊢
        refine L_y rfl (y_assign rfl) rfl ?_
        refine L_nil ?_
        refine C_region ?_
        refine L_y rfl (y_move rfl) rfl ?_
        refine L_y rfl (y_add rfl rfl (show _ = ((i + 1 : Nat) : Int) from by rw [wi64 (by omega) (by omega)]; omega)) rfl ?_
        refine L_y rfl (y_assign rfl) rfl ?_
        refine L_nil ?_
        have e1 : big (xdel l n) n (i + 1) = big (xdel l n) n i := by rw [big_next hx]; first | rw [decide_eq_false hlt, Bool.or_false] | (rw [hb]; rfl)
        have e2 : (outI (xdel l n) n a (i + 1)) = (outI (xdel l n) n a i) ++ [x] := by first | exact out_more hb hx | exact out_not hb hx hlt
        refine ⟨(i + 1, g5), ⟨by simp only; omega, ?_⟩, by simp only; omega, ?_⟩ <;> try simp only
        · rw [e2]; exact hg5
        · rw [e1, e2]
          exact ⟨⟨rfl, rfl, rfl, rfl, rfl, rfl, trivial⟩, ((hsub (.cons_cons _ (.cons_cons _ (.cons_cons _ (.cons _ (.refl _)))))).trans (hsub_pick [1, 1, 1] rfl))⟩
    · have hb : big (xdel l n) n i = true := by simpa using hg17_3
      refine L_skip rfl rfl ?_
      refine L_skip rfl rfl ?_
      refine L_skip rfl rfl ?_
      refine L_skip rfl rfl ?_
      refine L_skip rfl rfl ?_
      refine L_skip rfl rfl ?_
      refine L_skip rfl rfl ?_
      refine L_y rfl (y_pick_f rfl rfl) rfl ?_
      refine L_nil ?_
      refine C_cond_f rfl ?_
      refine C_skip ?_
      refine C_region ?_
      refine L_y rfl (y_move rfl) rfl ?_
      refine L_y rfl (y_move rfl) rfl ?_
      refine L_y rfl (y_move rfl) rfl ?_
      refine L_y rfl (y_indexS rfl rfl Try.underlying67 sz_79 (by omega) (by omega) (show _ = i * 2 from by simp)) rfl ?_
      refine L_y rfl (y_loadA rfl ag_79 sz_79 (sees 1 0 rfl) (by rw [List.length_append, lcs_len]; omega) (lcs_at hx).2.2) rfl ?_
      refine L_op rfl (op_buildSlice (vs := [(0, _)]) rfl Try.underlying67 sz_79 zl_79 rfl (by decide) (fill_one rfl rfl rfl) rfl (fun B4 => ?_))
      refine L_op rfl (op_append (gs := g3) (len := ((outI (xdel l n) n a i)).length) (m := 1) (xs := lcs ((outI (xdel l n) n a i))) (vs := lcs [x]) 1 rfl rfl rfl hok3 (src_slice (sees 0 0 rfl) (Nat.le_of_ble_eq_true rfl) rfl) rfl (lcs_one _) Try.underlying67 ni_67 sz_79 by_79 (by decide) zl_79 rfl (by have := out_len (n := n) (a := a) hi; first | omega | (simp only [List.length_append, List.length_cons, List.length_nil]; omega)) rfl (fun g5 hg5 => ?_))
      rw [← lcs_append, show ((outI (xdel l n) n a i)).length + 1 = ((outI (xdel l n) n a i) ++ [x]).length from by simp] at hg5 ⊢
      refine L_y rfl (y_assign rfl) rfl ?_
      refine L_nil ?_
      refine C_region ?_
      refine L_y rfl (y_move rfl) rfl ?_
      refine L_y rfl (y_add rfl rfl (show _ = ((i + 1 : Nat) : Int) from by rw [wi64 (by omega) (by omega)]; omega)) rfl ?_
      refine L_y rfl (y_assign rfl) rfl ?_
      refine L_nil ?_
      have e1 : big (xdel l n) n (i + 1) = big (xdel l n) n i := by rw [big_next hx]; first | rw [decide_eq_false hlt, Bool.or_false] | (rw [hb]; rfl)
      have e2 : (outI (xdel l n) n a (i + 1)) = (outI (xdel l n) n a i) ++ [x] := by first | exact out_more hb hx | exact out_not hb hx hlt
      refine ⟨(i + 1, g5), ⟨by simp only; omega, ?_⟩, by simp only; omega, ?_⟩ <;> try simp only
      · rw [e2]; exact hg5
      · rw [e1, e2]
        exact ⟨⟨rfl, rfl, rfl, rfl, rfl, rfl, trivial⟩, ((hsub (.cons_cons _ (.cons_cons _ (.cons_cons _ (.cons _ (.refl _)))))).trans (hsub_pick [1, 1, 1] rfl))⟩
  · obtain rfl : i = (xdel l n).length := by have := of_decide_eq_false hc5; omega
    refine C_exit ?_
    refine C_seq ?_
    refine C_seq ?_
    refine C_region ?_
    refine L_y rfl (y_move rfl) rfl ?_
    refine L_y rfl (y_not rfl) rfl ?_
    refine L_nil ?_
    refine C_cond rfl (fun hc7 => ?_) (fun hc7 => ?_)
    · have hb : big (xdel l n) n (xdel l n).length = false := by simpa using hc7
      refine C_region ?_
      refine L_y rfl (y_move rfl) rfl ?_
      refine L_y rfl (y_move rfl) rfl ?_
      refine L_y rfl (y_move rfl) rfl ?_
      refine L_y rfl (y_build (vs := [(0, _), (1, _)]) (l := [.int .u64 (n : Int), .int .i64 a]) rfl pl_79 zl_79 (fill_cons (off := 0) (m := 1) (vs := [_]) rfl rfl rfl (Nat.le_of_ble_eq_true rfl) (fill_cons (off := 1) (m := 1) (vs := [_]) rfl rfl rfl (Nat.le_of_ble_eq_true rfl) rfl))) rfl ?_
      refine L_op rfl (op_buildSlice (vs := [(0, _)]) rfl Try.underlying67 sz_79 zl_79 rfl (by decide) (fill_one rfl rfl rfl) rfl (fun B5 => ?_))
      refine L_op rfl (op_append (gs := g3) (len := ((outI (xdel l n) n a (xdel l n).length)).length) (m := 1) (xs := lcs ((outI (xdel l n) n a (xdel l n).length))) (vs := lcs [(n, a)]) 1 rfl rfl rfl hok3 (src_slice (sees 0 0 rfl) (Nat.le_of_ble_eq_true rfl) rfl) rfl (lcs_one _) Try.underlying67 ni_67 sz_79 by_79 (by decide) zl_79 rfl (by have := out_len (n := n) (a := a) hi; first | omega | (simp only [List.length_append, List.length_cons, List.length_nil]; omega)) rfl (fun g4 hg4 => ?_))
      rw [← lcs_append, show ((outI (xdel l n) n a (xdel l n).length)).length + 1 = ((outI (xdel l n) n a (xdel l n).length) ++ [(n, a)]).length from by simp] at hg4 ⊢
      refine L_y rfl (y_assign rfl) rfl ?_
      refine L_nil ?_
      refine C_seq ?_
      refine C_region ?_
      refine L_y rfl (y_move rfl) rfl ?_
      refine L_y rfl (y_assign rfl) rfl ?_
      refine L_y rfl (y_assign rfl) rfl ?_
      refine L_nil ?_
      refine C_ret ?_
      refine B_ret (rv_tmp rfl (rv_tmp rfl rv_nil)) ((hsub (.cons_cons _ (.cons _ (.cons _ (.cons _ (.refl _)))))).trans (hsub_pick [1] rfl)) ?_
      have e4 : xput segs size l n a true = (xins (xdel l n) n a, 0) := by simp [xput, *]
      rw [e4]
      have e6 := out_end (a := a) hb
      rw [e6] at hg4
      refine ⟨g4, hg4, ?_, ?_⟩
      · rw [e6] <;> rfl
      · rw [e6] <;> rfl
    · have hb : big (xdel l n) n (xdel l n).length = true := by simpa using hc7
      refine C_skip ?_
      refine C_seq ?_
      refine C_region ?_
      refine L_y rfl (y_move rfl) rfl ?_
      refine L_y rfl (y_assign rfl) rfl ?_
      refine L_y rfl (y_assign rfl) rfl ?_
      refine L_nil ?_
      refine C_ret ?_
      refine B_ret (rv_tmp rfl (rv_tmp rfl rv_nil)) ((hsub (.cons_cons _ (.cons _ (.cons _ (.refl _))))).trans (hsub_pick [0] rfl)) ?_
      have e4 : xput segs size l n a true = (xins (xdel l n) n a, 0) := by simp [xput, *]
      rw [e4]
      have e6 := out_done (a := a) hb
      rw [e6] at hok3
      refine ⟨g3, hok3, ?_, ?_⟩
      · rw [e6] <;> rfl
      · rw [e6] <;> rfl

theorem put18_false {w0 : World} {H : Hp} {l : Xl} {g : Option SlG} (hok : slOk 2 g l.length (lcs l)) (hl : l.length < 1000000) (segs size : Int) (n : Nat) (a : Int) (hs : Xs l) : FnS Try.prog w0 77 #[slV g l.length, .int .i64 segs, .int .i64 size, .int .u64 (n : Int), .int .i64 a, .bool false] (slSeg 79 g (lcs l) :: H) (fun e H' => ∃ g2, slOk 2 g2 (xput segs size l n a false).1.length (lcs (xput segs size l n a false).1) ∧ e = .returned (.tuple #[slV g2 (xput segs size l n a false).1.length, .int .i64 (xput segs size l n a false).2]) ∧ H' = slSeg 79 g2 (lcs (xput segs size l n a false).1) :: H) := by
  by_cases h0 : n = 0
  · exact put18_0f hok hl segs size n a h0
  · cases ho : ofS segs size a with
    | none => exact put18_rf hok hl segs size n a h0 ho
    | some s =>
      cases hf : xfind l n with
      | none => exact put18_py hok hl segs size n a h0 ho hf
      | some q =>
        obtain ⟨k, hk1, hk2, hk3⟩ := fnd_some hs hf
        exact put18_p5 hok hl segs size n a h0 ho hf hk2

theorem put18_true {w0 : World} {H : Hp} {l : Xl} {g : Option SlG} (hok : slOk 2 g l.length (lcs l)) (hl : l.length < 1000000) (segs size : Int) (n : Nat) (a : Int) (hs : Xs l) : FnS Try.prog w0 77 #[slV g l.length, .int .i64 segs, .int .i64 size, .int .u64 (n : Int), .int .i64 a, .bool true] (slSeg 79 g (lcs l) :: H) (fun e H' => ∃ g2, slOk 2 g2 (xput segs size l n a true).1.length (lcs (xput segs size l n a true).1) ∧ e = .returned (.tuple #[slV g2 (xput segs size l n a true).1.length, .int .i64 (xput segs size l n a true).2]) ∧ H' = slSeg 79 g2 (lcs (xput segs size l n a true).1) :: H) := by
  by_cases h0 : n = 0
  · exact put18_0t hok hl segs size n a h0
  · cases ho : ofS segs size a with
    | none => exact put18_rt hok hl segs size n a h0 ho
    | some s =>
      cases hf : xfind l n with
      | none => exact put18_m4 hok hl segs size n a h0 ho hf
      | some q =>
        obtain ⟨k, hk1, hk2, hk3⟩ := fnd_some hs hf
        cases g with
        | none => exact absurd hok.2 (by omega)
        | some g => exact put18_my hok hl segs size n a h0 ho hf hk2 hk3 (xdel_take hs hk1)

theorem drop18_n {w0 : World} {H : Hp} {l : Xl} {g : Option SlG} (hok : slOk 2 g l.length (lcs l)) (hl : l.length < 1000000) (n : Nat) (hf : xfind l n = none) : FnS Try.prog w0 78 #[slV g l.length, .int .u64 (n : Int)] (slSeg 79 g (lcs l) :: H) (fun e H' => ∃ g2, slOk 2 g2 (xdrop l n).1.length (lcs (xdrop l n).1) ∧ e = .returned (.tuple #[slV g2 (xdrop l n).1.length, .int .i64 (xdrop l n).2]) ∧ H' = slSeg 79 g2 (lcs (xdrop l n).1) :: H) := by
  refine FnS_intro (n := 16) (rs := [.tmp 4, .tmp 5]) (vs := [slV g l.length, .int .u64 (n : Int)]) Try.func78 rfl Try.ntmps78 rfl rfl ?_
  refine C_seq ?_
  refine C_region ?_
  refine L_y rfl (y_assign rfl) rfl ?_
  refine L_y rfl (y_assign rfl) rfl ?_
  refine L_nil ?_
  refine C_seq ?_
  refine C_region ?_
  refine L_y rfl (y_move rfl) rfl ?_
  refine L_y rfl (y_move rfl) rfl ?_
  refine L_op rfl (op_call rfl rfl (fun a w => Try.call38 a w) rfl ?_)
  refine (find18_s (g := g) hok hl n).mono ?_
  rintro _ _ ⟨rfl, rfl⟩
  rw [fnd_none hf]
  refine ⟨_, rfl, ?_⟩
  refine L_y rfl (y_assign rfl) rfl ?_
  refine L_nil ?_
  refine C_seq ?_
  refine C_seq ?_
  refine C_region ?_
  refine L_y rfl (y_move rfl) rfl ?_
  refine L_y rfl (y_lss rfl rfl) rfl ?_
  refine L_nil ?_
  refine C_cond_t rfl ?_
  refine C_seq ?_
  refine C_region ?_
  refine L_y rfl (y_move rfl) rfl ?_
  refine L_y rfl (y_assign rfl) rfl ?_
  refine L_y rfl (y_assign rfl) rfl ?_
  refine L_nil ?_
  refine C_ret ?_
  refine B_ret (rv_tmp rfl (rv_tmp rfl rv_nil)) ((hsub (.cons_cons _ (.refl _))).trans (hsub_pick [0] rfl)) ?_
  have e4 : xdrop l n = (l, 4) := by simp [xdrop, hf]
  rw [e4]
  exact ⟨g, hok, rfl, rfl⟩

theorem drop18_y {w0 : World} {H : Hp} {l : Xl} {g : SlG} (hok : slOk 2 (some g) l.length (lcs l)) (hl : l.length < 1000000) (n : Nat) {q : Int} {k : Nat} (hf : xfind l n = some q) (hk : fnd l n = (k : Int)) (hkl : k < l.length) (hdel : xdel l n = l.take k ++ l.drop (k + 1)) : FnS Try.prog w0 78 #[slV (some g) l.length, .int .u64 (n : Int)] (slSeg 79 (some g) (lcs l) :: H) (fun e H' => ∃ g2, slOk 2 g2 (xdrop l n).1.length (lcs (xdrop l n).1) ∧ e = .returned (.tuple #[slV g2 (xdrop l n).1.length, .int .i64 (xdrop l n).2]) ∧ H' = slSeg 79 g2 (lcs (xdrop l n).1) :: H) := by
  refine FnS_intro (n := 16) (rs := [.tmp 4, .tmp 5]) (vs := [slV (some g) l.length, .int .u64 (n : Int)]) Try.func78 rfl Try.ntmps78 rfl rfl ?_
  refine C_seq ?_
  refine C_region ?_
  refine L_y rfl (y_assign rfl) rfl ?_
  refine L_y rfl (y_assign rfl) rfl ?_
  refine L_nil ?_
  refine C_seq ?_
  refine C_region ?_
  refine L_y rfl (y_move rfl) rfl ?_
  refine L_y rfl (y_move rfl) rfl ?_
  refine L_op rfl (op_call rfl rfl (fun a w => Try.call38 a w) rfl ?_)
  refine (find18_s (g := (some g)) hok hl n).mono ?_
  rintro _ _ ⟨rfl, rfl⟩
  rw [hk]
  refine ⟨_, rfl, ?_⟩
  refine L_y rfl (y_assign rfl) rfl ?_
  refine L_nil ?_
  refine C_seq ?_
  refine C_seq ?_
  refine C_region ?_
  refine L_y rfl (y_move rfl) rfl ?_
  refine L_y rfl (y_lss rfl rfl) rfl ?_
  refine L_nil ?_
  refine C_cond rfl (fun hc0 => absurd hc0 (by simp)) (fun hc0 => ?_)
  refine C_skip ?_
  refine C_seq ?_
  refine C_region ?_
  refine L_y rfl (y_move rfl) rfl ?_
  refine L_y rfl (y_move rfl) rfl ?_
  refine L_op rfl (op_call rfl rfl (fun a w => Try.call97 a w) rfl ?_)
  refine (without18_s hok hl k hkl).mono ?_
  rintro _ _ ⟨gw, hgw, rfl, rfl⟩
  rw [← hdel] at hgw ⊢
  refine ⟨_, rfl, ?_⟩
  refine L_y rfl (y_assign rfl) rfl ?_
  refine L_y rfl (y_assign rfl) rfl ?_
  refine L_nil ?_
  refine C_ret ?_
  refine B_ret (rv_tmp rfl (rv_tmp rfl rv_nil)) ((hsub (.cons_cons _ (.cons _ (.refl _)))).trans (hsub_pick [0] rfl)) ?_
  have e4 : xdrop l n = (xdel l n, 0) := by simp [xdrop, hf]
  rw [e4]
  exact ⟨gw, hgw, rfl, rfl⟩

theorem drop18_s {w0 : World} {H : Hp} {l : Xl} {g : Option SlG} (hok : slOk 2 g l.length (lcs l)) (hl : l.length < 1000000) (n : Nat) (hs : Xs l) : FnS Try.prog w0 78 #[slV g l.length, .int .u64 (n : Int)] (slSeg 79 g (lcs l) :: H) (fun e H' => ∃ g2, slOk 2 g2 (xdrop l n).1.length (lcs (xdrop l n).1) ∧ e = .returned (.tuple #[slV g2 (xdrop l n).1.length, .int .i64 (xdrop l n).2]) ∧ H' = slSeg 79 g2 (lcs (xdrop l n).1) :: H) := by
  cases hf : xfind l n with
  | none => exact drop18_n hok hl n hf
  | some q =>
    obtain ⟨k, hk1, hk2, hk3⟩ := fnd_some hs hf
    cases g with
    | none => exact absurd hok.2 (by omega)
    | some g => exact drop18_y hok hl n hf hk2 hk3 (xdel_take hs hk1)

end Go.Proofs.Ytaeooiogjhkjfaa

/- Facts of the translation's types, for the kernel (own work, by a program of this repo). -/
namespace Go.Proofs.Ytaeooiogjhkjfaa
open Go.Sl
theorem ag_126 : isAggT Try.prog 126 = some false := by kernel_rfl
theorem ag_127 : isAggT Try.prog 127 = some false := by kernel_rfl
theorem by_58 : byT Try.prog 58 = some 8 := by kernel_rfl
theorem eg_51 : Try.prog.eqGuardType Try.prog.depth 51 = false := by kernel_rfl
theorem fi_51 : intFieldsT Try.prog 51 = some [.i64, .i64] := by kernel_rfl
theorem fl_129_0 : fldT Try.prog 129 0 = some 0 := by kernel_rfl
theorem fl_129_1 : fldT Try.prog 129 1 = some 2 := by kernel_rfl
theorem fl_129_2 : fldT Try.prog 129 2 = some 3 := by kernel_rfl
theorem ni_63 : notIntT Try.prog 63 = true := by kernel_rfl
theorem pl_129 : placesT Try.prog 129 = some [(0, 2), (2, 1), (3, 1)] := by kernel_rfl
theorem zl_129 : zeroL Try.prog 129 = some ([.int .i64 0, .int .i64 0] ++ [.map none, .map none]) := by kernel_rfl
theorem zt_3 : zeroT Try.prog 3 = some (.int .i64 0) := by kernel_rfl
end Go.Proofs.Ytaeooiogjhkjfaa

/- walks (own work; the walks' lines by a program of this repo). -/
set_option linter.unusedVariables false
set_option linter.unusedSimpArgs false
set_option maxRecDepth 20000
namespace Go.Proofs.Ytaeooiogjhkjfaa
open Go.Sl
attribute [local irreducible] BodyQ WpC WpL WpS WpH OpW FnS


theorem check_s {w0 : World} {H : Hp} (segs size : Int) : FnS Try.prog w0 27 #[shV segs size] H (fun e H' => e = .returned (.int .i64 (chkE segs size)) ∧ H' = H) := by
  refine FnS_intro (n := 21) (rs := [.tmp 2]) (vs := [shV segs size]) Try.func27 rfl Try.ntmps27 rfl rfl ?_
  refine C_seq ?_
  refine C_region ?_
  refine L_op rfl (op_box rfl rfl rfl (fun B1 => ?_))
  refine L_y rfl (y_assign rfl) rfl ?_
  refine L_nil ?_
  refine C_seq ?_
  refine C_seq ?_
  refine C_region ?_
  refine L_y rfl (y_fieldAddr rfl fl_51_0) rfl ?_
  refine L_y rfl (y_load rfl ag_3 (sees 0 0 rfl) rfl) rfl ?_
  refine L_y rfl (y_lss rfl rfl) rfl ?_
  refine L_y rfl (y_move rfl) rfl ?_
  refine L_case 6 rfl (fun hg1_4 => ?_) (fun hg1_4 => ?_)
  · skip
    refine L_skip rfl rfl ?_
    refine L_skip rfl rfl ?_
    refine L_skip rfl rfl ?_
    refine L_y rfl (y_pick_t rfl rfl) rfl ?_
    refine L_y rfl (y_move rfl) rfl ?_
    refine L_skip rfl rfl ?_
    refine L_skip rfl rfl ?_
    refine L_skip rfl rfl ?_
    refine L_y rfl (y_pick_t rfl rfl) rfl ?_
    refine L_y rfl (y_move rfl) rfl ?_
    refine L_skip rfl rfl ?_
    refine L_skip rfl rfl ?_
    refine L_skip rfl rfl ?_
    refine L_y rfl (y_pick_t rfl rfl) rfl ?_
    refine L_nil ?_
    refine C_cond_t rfl ?_
    refine C_seq ?_
    refine C_region ?_
    refine L_y rfl (y_assign rfl) rfl ?_
    refine L_nil ?_
    refine C_ret ?_
    refine B_ret (rv_tmp rfl rv_nil) (hsub (.cons _ (.refl _))) ?_
    refine ⟨congrArg (fun x => Ending.returned (Value.int .i64 x)) ?_, rfl⟩
    unfold chkE mayG
    split <;> rename_i hq <;> simp at hq <;> simp_all <;> omega
  · skip
    refine L_y rfl (y_fieldAddr rfl fl_51_0) rfl ?_
    refine L_y rfl (y_load rfl ag_3 (sees 0 0 rfl) rfl) rfl ?_
    refine L_y rfl (y_gtr rfl rfl) rfl ?_
    refine L_y rfl (y_pick_f rfl rfl) rfl ?_
    refine L_y rfl (y_move rfl) rfl ?_
    refine L_case 11 rfl (fun hg1_9 => ?_) (fun hg1_9 => ?_)
    · skip
      refine L_skip rfl rfl ?_
      refine L_skip rfl rfl ?_
      refine L_skip rfl rfl ?_
      refine L_y rfl (y_pick_t rfl rfl) rfl ?_
      refine L_y rfl (y_move rfl) rfl ?_
      refine L_skip rfl rfl ?_
      refine L_skip rfl rfl ?_
      refine L_skip rfl rfl ?_
      refine L_y rfl (y_pick_t rfl rfl) rfl ?_
      refine L_nil ?_
      refine C_cond_t rfl ?_
      refine C_seq ?_
      refine C_region ?_
      refine L_y rfl (y_assign rfl) rfl ?_
      refine L_nil ?_
      refine C_ret ?_
      refine B_ret (rv_tmp rfl rv_nil) (hsub (.cons _ (.refl _))) ?_
      refine ⟨congrArg (fun x => Ending.returned (Value.int .i64 x)) ?_, rfl⟩
      unfold chkE mayG
      split <;> rename_i hq <;> simp at hq <;> simp_all <;> omega
    · skip
      refine L_y rfl (y_fieldAddr rfl fl_51_1) rfl ?_
      refine L_y rfl (y_load rfl ag_3 (sees 0 0 rfl) rfl) rfl ?_
      refine L_y rfl (y_lss rfl rfl) rfl ?_
      refine L_y rfl (y_pick_f rfl rfl) rfl ?_
      refine L_y rfl (y_move rfl) rfl ?_
      refine L_case 16 rfl (fun hg1_14 => ?_) (fun hg1_14 => ?_)
      · skip
        refine L_skip rfl rfl ?_
        refine L_skip rfl rfl ?_
        refine L_skip rfl rfl ?_
        refine L_y rfl (y_pick_t rfl rfl) rfl ?_
        refine L_nil ?_
        refine C_cond_t rfl ?_
        refine C_seq ?_
        refine C_region ?_
        refine L_y rfl (y_assign rfl) rfl ?_
        refine L_nil ?_
        refine C_ret ?_
        refine B_ret (rv_tmp rfl rv_nil) (hsub (.cons _ (.refl _))) ?_
        refine ⟨congrArg (fun x => Ending.returned (Value.int .i64 x)) ?_, rfl⟩
        unfold chkE mayG
        split <;> rename_i hq <;> simp at hq <;> simp_all <;> omega
      · skip
        refine L_y rfl (y_fieldAddr rfl fl_51_1) rfl ?_
        refine L_y rfl (y_load rfl ag_3 (sees 0 0 rfl) rfl) rfl ?_
        refine L_y rfl (y_gtr rfl rfl) rfl ?_
        refine L_y rfl (y_pick_f rfl rfl) rfl ?_
        refine L_nil ?_
        refine C_cond rfl (fun hc0 => ?_) (fun hc0 => ?_)
        · replace hc0 := of_decide_eq_true hc0
          refine C_seq ?_
          refine C_region ?_
          refine L_y rfl (y_assign rfl) rfl ?_
          refine L_nil ?_
          refine C_ret ?_
          refine B_ret (rv_tmp rfl rv_nil) (hsub (.cons _ (.refl _))) ?_
          refine ⟨congrArg (fun x => Ending.returned (Value.int .i64 x)) ?_, rfl⟩
          unfold chkE mayG
          split <;> rename_i hq <;> simp at hq <;> simp_all <;> omega
        · replace hc0 := of_decide_eq_false hc0
          refine C_skip ?_
          refine C_seq ?_
          refine C_region ?_
          refine L_y rfl (y_assign rfl) rfl ?_
          refine L_nil ?_
          refine C_ret ?_
          refine B_ret (rv_tmp rfl rv_nil) (hsub (.cons _ (.refl _))) ?_
          refine ⟨congrArg (fun x => Ending.returned (Value.int .i64 x)) ?_, rfl⟩
          unfold chkE mayG
          split <;> rename_i hq <;> simp at hq <;> simp_all <;> omega

theorem shmay_s {w0 : World} {H : Hp} (segs size : Int) : FnS Try.prog w0 79 #[shV segs size] H (fun e H' => e = .returned (.bool (mayG segs size)) ∧ H' = H) := by
  refine FnS_intro (n := 11) (rs := [.tmp 2]) (vs := [shV segs size]) Try.func79 rfl Try.ntmps79 rfl rfl ?_
  refine C_seq ?_
  refine C_region ?_
  refine L_op rfl (op_box rfl rfl rfl (fun B1 => ?_))
  refine L_y rfl (y_assign rfl) rfl ?_
  refine L_nil ?_
  refine C_seq ?_
  refine C_region ?_
  refine L_y rfl (y_loadA rfl ag_51 sz_51 (sees 0 0 rfl) (Nat.le_of_ble_eq_true rfl) rfl) rfl ?_
  refine L_y rfl (y_build0 pl_51 zl_51) rfl ?_
  refine L_y rfl (y_nest (xs := [segs, size]) (ys := [0, 0]) rfl rfl fi_51 eg_51 rfl rfl) rfl ?_
  refine L_y rfl (y_move rfl) rfl ?_
  refine L_case 6 rfl (fun hg1_4 => ?_) (fun hg1_4 => ?_)
  · skip
    refine L_y rfl (y_loadA rfl ag_51 sz_51 (sees 0 0 rfl) (Nat.le_of_ble_eq_true rfl) rfl) rfl ?_
    refine L_op rfl (op_call rfl rfl (fun a w => Try.call27 a w) rfl ?_)
    refine (check_s segs size).mono ?_
    rintro _ _ ⟨rfl, e⟩
    obtain rfl := e.symm
    clear e
    refine ⟨_, rfl, ?_⟩
    refine L_y rfl (y_eqi rfl rfl) rfl ?_
    refine L_y rfl (y_pick_t rfl rfl) rfl ?_
    refine L_y rfl (y_assign rfl) rfl ?_
    refine L_nil ?_
    refine C_ret ?_
    refine B_ret (rv_tmp rfl rv_nil) (hsub (.cons _ (.refl _))) ?_
    refine ⟨congrArg (fun x => Ending.returned (Value.bool x)) ?_, rfl⟩
    first
    | (unfold chkE; cases mayG segs size <;> simp; done)
    | (have hz : segs = 0 ∧ size = 0 := by simpa using hg1_4
       rw [hz.1, hz.2]; rfl)
  · skip
    refine L_skip rfl rfl ?_
    refine L_skip rfl rfl ?_
    refine L_skip rfl rfl ?_
    refine L_y rfl (y_pick_f rfl rfl) rfl ?_
    refine L_y rfl (y_assign rfl) rfl ?_
    refine L_nil ?_
    refine C_ret ?_
    refine B_ret (rv_tmp rfl rv_nil) (hsub (.cons _ (.refl _))) ?_
    refine ⟨congrArg (fun x => Ending.returned (Value.bool x)) ?_, rfl⟩
    first
    | (unfold chkE; cases mayG segs size <;> simp; done)
    | (have hz : segs = 0 ∧ size = 0 := by simpa using hg1_4
       rw [hz.1, hz.2]; rfl)

theorem sectors_s {w0 : World} {H : Hp} (segs size : Int) (hm : mayG segs size = true) : FnS Try.prog w0 80 #[shV segs size] H (fun e H' => e = .returned (.int .i64 (2 + segs * size)) ∧ H' = H) := by
  obtain ⟨h1, h2, h3, h4⟩ := mayG_spec hm
  obtain ⟨m1, m2⟩ := mul_bound hm
  refine FnS_intro (n := 12) (rs := [.tmp 2]) (vs := [shV segs size]) Try.func80 rfl Try.ntmps80 rfl rfl ?_
  refine C_seq ?_
  refine C_region ?_
  refine L_op rfl (op_box rfl rfl rfl (fun B1 => ?_))
  refine L_y rfl (y_assign rfl) rfl ?_
  refine L_nil ?_
  refine C_seq ?_
  refine C_seq ?_
  refine C_region ?_
  refine L_y rfl (y_loadA rfl ag_51 sz_51 (sees 0 0 rfl) (Nat.le_of_ble_eq_true rfl) rfl) rfl ?_
  refine L_op rfl (op_call rfl rfl (fun a w => Try.call79 a w) rfl ?_)
  refine (shmay_s segs size).mono ?_
  rintro _ _ ⟨rfl, e⟩
  obtain rfl := e.symm
  clear e
  rw [hm]
  refine ⟨_, rfl, ?_⟩
  refine L_y rfl (y_not rfl) rfl ?_
  refine L_nil ?_
  refine C_cond_f rfl ?_
  refine C_skip ?_
  refine C_seq ?_
  refine C_region ?_
  refine L_y rfl (y_fieldAddr rfl fl_51_0) rfl ?_
  refine L_y rfl (y_load rfl ag_3 (sees 0 0 rfl) rfl) rfl ?_
  refine L_y rfl (y_fieldAddr rfl fl_51_1) rfl ?_
  refine L_y rfl (y_load rfl ag_3 (sees 0 0 rfl) rfl) rfl ?_
  refine L_y rfl (y_mul rfl rfl (wi64 (by omega) (by omega))) rfl ?_
  refine L_y rfl (y_add rfl rfl (wi64 (by omega) (by omega))) rfl ?_
  refine L_y rfl (y_assign rfl) rfl ?_
  refine L_nil ?_
  refine C_ret ?_
  refine B_ret (rv_tmp rfl rv_nil) (hsub (.cons _ (.refl _))) ?_
  exact ⟨rfl, rfl⟩

theorem of_n {w0 : World} {H : Hp} (segs size : Int) (hm : mayG segs size = false) (a : Int) : FnS Try.prog w0 40 #[shV segs size, .int .i64 a] H (fun e H' => e = .returned (.tuple #[.int .i64 0, .int .i64 0, .bool false]) ∧ H' = H) := by
  refine FnS_intro (n := 31) (rs := [.tmp 4, .tmp 5, .tmp 6]) (vs := [shV segs size, .int .i64 a]) Try.func40 rfl Try.ntmps40 rfl rfl ?_
  refine C_seq ?_
  refine C_region ?_
  refine L_op rfl (op_box rfl rfl rfl (fun B1 => ?_))
  refine L_y rfl (y_assign rfl) rfl ?_
  refine L_y rfl (y_assign rfl) rfl ?_
  refine L_y rfl (y_assign rfl) rfl ?_
  refine L_nil ?_
  refine C_seq ?_
  refine C_seq ?_
  refine C_region ?_
  refine L_y rfl (y_loadA rfl ag_51 sz_51 (sees 0 0 rfl) (Nat.le_of_ble_eq_true rfl) rfl) rfl ?_
  refine L_op rfl (op_call rfl rfl (fun a w => Try.call79 a w) rfl ?_)
  refine (shmay_s segs size).mono ?_
  rintro _ _ ⟨rfl, e⟩
  obtain rfl := e.symm
  clear e
  rw [hm]
  refine ⟨_, rfl, ?_⟩
  refine L_y rfl (y_not rfl) rfl ?_
  refine L_y rfl (y_move rfl) rfl ?_
  refine L_skip rfl rfl ?_
  refine L_skip rfl rfl ?_
  refine L_y rfl (y_pick_t rfl rfl) rfl ?_
  refine L_y rfl (y_move rfl) rfl ?_
  refine L_skip rfl rfl ?_
  refine L_skip rfl rfl ?_
  refine L_skip rfl rfl ?_
  refine L_skip rfl rfl ?_
  refine L_y rfl (y_pick_t rfl rfl) rfl ?_
  refine L_nil ?_
  refine C_cond_t rfl ?_
  refine C_seq ?_
  refine C_region ?_
  refine L_y rfl (y_assign rfl) rfl ?_
  refine L_y rfl (y_assign rfl) rfl ?_
  refine L_y rfl (y_assign rfl) rfl ?_
  refine L_nil ?_
  refine C_ret ?_
  refine B_ret (rv_tmp rfl (rv_tmp rfl (rv_tmp rfl rv_nil))) (hsub (.cons _ (.refl _))) ?_
  exact ⟨rfl, rfl⟩

theorem of_o {w0 : World} {H : Hp} (segs size : Int) (hm : mayG segs size = true) (a : Int) (ho : a < 2 ∨ 2 + segs * size ≤ a) : FnS Try.prog w0 40 #[shV segs size, .int .i64 a] H (fun e H' => e = .returned (.tuple #[.int .i64 0, .int .i64 0, .bool false]) ∧ H' = H) := by
  obtain ⟨h1, h2, h3, h4⟩ := mayG_spec hm
  obtain ⟨m1, m2⟩ := mul_bound hm
  refine FnS_intro (n := 31) (rs := [.tmp 4, .tmp 5, .tmp 6]) (vs := [shV segs size, .int .i64 a]) Try.func40 rfl Try.ntmps40 rfl rfl ?_
  refine C_seq ?_
  refine C_region ?_
  refine L_op rfl (op_box rfl rfl rfl (fun B1 => ?_))
  refine L_y rfl (y_assign rfl) rfl ?_
  refine L_y rfl (y_assign rfl) rfl ?_
  refine L_y rfl (y_assign rfl) rfl ?_
  refine L_nil ?_
  refine C_seq ?_
  refine C_seq ?_
  refine C_region ?_
  refine L_y rfl (y_loadA rfl ag_51 sz_51 (sees 0 0 rfl) (Nat.le_of_ble_eq_true rfl) rfl) rfl ?_
  refine L_op rfl (op_call rfl rfl (fun a w => Try.call79 a w) rfl ?_)
  refine (shmay_s segs size).mono ?_
  rintro _ _ ⟨rfl, e⟩
  obtain rfl := e.symm
  clear e
  rw [hm]
  refine ⟨_, rfl, ?_⟩
  refine L_y rfl (y_not rfl) rfl ?_
  refine L_y rfl (y_move rfl) rfl ?_
  refine L_y rfl (y_move rfl) rfl ?_
  refine L_y rfl (y_lss rfl rfl) rfl ?_
  refine L_y rfl (y_pick_f rfl rfl) rfl ?_
  refine L_y rfl (y_move rfl) rfl ?_
  refine L_case 15 rfl (fun hg1_8 => ?_) (fun hg1_8 => ?_)
  · skip
    refine L_skip rfl rfl ?_
    refine L_skip rfl rfl ?_
    refine L_skip rfl rfl ?_
    refine L_skip rfl rfl ?_
    refine L_y rfl (y_pick_t rfl rfl) rfl ?_
    refine L_nil ?_
    refine C_cond_t rfl ?_
    refine C_seq ?_
    refine C_region ?_
    refine L_y rfl (y_assign rfl) rfl ?_
    refine L_y rfl (y_assign rfl) rfl ?_
    refine L_y rfl (y_assign rfl) rfl ?_
    refine L_nil ?_
    refine C_ret ?_
    refine B_ret (rv_tmp rfl (rv_tmp rfl (rv_tmp rfl rv_nil))) (hsub (.cons _ (.refl _))) ?_
    exact ⟨rfl, rfl⟩
  · replace hg1_8 := of_decide_eq_false hg1_8
    refine L_y rfl (y_move rfl) rfl ?_
    refine L_y rfl (y_loadA rfl ag_51 sz_51 (sees 0 0 rfl) (Nat.le_of_ble_eq_true rfl) rfl) rfl ?_
    refine L_op rfl (op_call rfl rfl (fun a w => Try.call80 a w) rfl ?_)
    refine (sectors_s segs size hm).mono ?_
    rintro _ _ ⟨rfl, e⟩
    obtain rfl := e.symm
    clear e
    refine ⟨_, rfl, ?_⟩
    refine L_y rfl (y_geq rfl rfl) rfl ?_
    refine L_y rfl (y_pick_f rfl rfl) rfl ?_
    refine L_nil ?_
    refine C_cond rfl (fun hc0 => ?_) (fun hc0 => absurd (of_decide_eq_false hc0) (by omega))
    refine C_seq ?_
    refine C_region ?_
    refine L_y rfl (y_assign rfl) rfl ?_
    refine L_y rfl (y_assign rfl) rfl ?_
    refine L_y rfl (y_assign rfl) rfl ?_
    refine L_nil ?_
    refine C_ret ?_
    refine B_ret (rv_tmp rfl (rv_tmp rfl (rv_tmp rfl rv_nil))) (hsub (.cons _ (.refl _))) ?_
    exact ⟨rfl, rfl⟩

theorem of_y {w0 : World} {H : Hp} (segs size : Int) (hm : mayG segs size = true) (a : Int) (ho : 2 ≤ a) (hp : a < 2 + segs * size) : FnS Try.prog w0 40 #[shV segs size, .int .i64 a] H (fun e H' => e = .returned (.tuple #[.int .i64 ((a - 2) / size), .int .i64 ((a - 2) % size), .bool true]) ∧ H' = H) := by
  obtain ⟨h1, h2, h3, h4⟩ := mayG_spec hm
  obtain ⟨m1, m2⟩ := mul_bound hm
  have q0 : 0 ≤ (a - 2) / size := Int.ediv_nonneg (by omega) (by omega)
  have q1 : (a - 2) / size ≤ a - 2 := Int.ediv_le_self _ (by omega)
  have q2 : 0 ≤ (a - 2) % size := Int.emod_nonneg _ (by omega)
  have q3 : (a - 2) % size < size := Int.emod_lt_of_pos _ (by omega)
  refine FnS_intro (n := 31) (rs := [.tmp 4, .tmp 5, .tmp 6]) (vs := [shV segs size, .int .i64 a]) Try.func40 rfl Try.ntmps40 rfl rfl ?_
  refine C_seq ?_
  refine C_region ?_
  refine L_op rfl (op_box rfl rfl rfl (fun B1 => ?_))
  refine L_y rfl (y_assign rfl) rfl ?_
  refine L_y rfl (y_assign rfl) rfl ?_
  refine L_y rfl (y_assign rfl) rfl ?_
  refine L_nil ?_
  refine C_seq ?_
  refine C_seq ?_
  refine C_region ?_
  refine L_y rfl (y_loadA rfl ag_51 sz_51 (sees 0 0 rfl) (Nat.le_of_ble_eq_true rfl) rfl) rfl ?_
  refine L_op rfl (op_call rfl rfl (fun a w => Try.call79 a w) rfl ?_)
  refine (shmay_s segs size).mono ?_
  rintro _ _ ⟨rfl, e⟩
  obtain rfl := e.symm
  clear e
  rw [hm]
  refine ⟨_, rfl, ?_⟩
  refine L_y rfl (y_not rfl) rfl ?_
  refine L_y rfl (y_move rfl) rfl ?_
  refine L_y rfl (y_move rfl) rfl ?_
  refine L_y rfl (y_lss rfl rfl) rfl ?_
  refine L_y rfl (y_pick_f rfl rfl) rfl ?_
  refine L_y rfl (y_move rfl) rfl ?_
  refine L_case 15 rfl (fun hg1_8 => ?_) (fun hg1_8 => ?_)
  · exact absurd (of_decide_eq_true hg1_8) (by omega)
  · skip
    refine L_y rfl (y_move rfl) rfl ?_
    refine L_y rfl (y_loadA rfl ag_51 sz_51 (sees 0 0 rfl) (Nat.le_of_ble_eq_true rfl) rfl) rfl ?_
    refine L_op rfl (op_call rfl rfl (fun a w => Try.call80 a w) rfl ?_)
    refine (sectors_s segs size hm).mono ?_
    rintro _ _ ⟨rfl, e⟩
    obtain rfl := e.symm
    clear e
    refine ⟨_, rfl, ?_⟩
    refine L_y rfl (y_geq rfl rfl) rfl ?_
    refine L_y rfl (y_pick_f rfl rfl) rfl ?_
    refine L_nil ?_
    refine C_cond rfl (fun hc0 => absurd (of_decide_eq_true hc0) (by omega)) (fun hc0 => ?_)
    refine C_skip ?_
    refine C_seq ?_
    refine C_region ?_
    refine L_y rfl (y_move rfl) rfl ?_
    refine L_y rfl (y_sub rfl rfl (wi64 (by omega) (by omega))) rfl ?_
    refine L_y rfl (y_assign rfl) rfl ?_
    refine L_nil ?_
    refine C_seq ?_
    refine C_regionH0 (by kernel_rfl) ?_
    refine H_y 0 rfl (by kernel_rfl) (by kernel_rfl) (by kernel_rfl) (HSub.refl _) rfl (y_move rfl) rfl ?_
    refine H_y 1 rfl (by kernel_rfl) (by kernel_rfl) (by kernel_rfl) (HSub.refl _) rfl (y_fieldAddr rfl fl_51_1) rfl ?_
    refine H_y 2 rfl (by kernel_rfl) (by kernel_rfl) (by kernel_rfl) (HSub.refl _) rfl (y_load rfl ag_3 (sees 0 0 rfl) rfl) rfl ?_
    refine H_y 3 rfl (by kernel_rfl) (by kernel_rfl) (by kernel_rfl) (HSub.refl _) rfl (y_quo rfl rfl (by omega) (show _ = ((a - 2) / size : Int) from by rw [Int.tdiv_eq_ediv_of_nonneg (by omega)]; exact wi64 (by omega) (by omega))) rfl ?_
    refine H_y 4 rfl (by kernel_rfl) (by kernel_rfl) (by kernel_rfl) (HSub.refl _) rfl (y_move rfl) rfl ?_
    refine H_y 5 rfl (by kernel_rfl) (by kernel_rfl) (by kernel_rfl) (HSub.refl _) rfl (y_fieldAddr rfl fl_51_1) rfl ?_
    refine H_y 6 rfl (by kernel_rfl) (by kernel_rfl) (by kernel_rfl) (HSub.refl _) rfl (y_load rfl ag_3 (sees 0 0 rfl) rfl) rfl ?_
    refine H_y 7 rfl (by kernel_rfl) (by kernel_rfl) (by kernel_rfl) (HSub.refl _) rfl (y_rem rfl rfl (by omega) (show _ = ((a - 2) % size : Int) from by rw [Int.tmod_eq_emod_of_nonneg (by omega)])) rfl ?_
    refine H_y 8 rfl (by kernel_rfl) (by kernel_rfl) (by kernel_rfl) (HSub.refl _) rfl (y_assign rfl) rfl ?_
    refine H_y 9 rfl (by kernel_rfl) (by kernel_rfl) (by kernel_rfl) (HSub.refl _) rfl (y_assign rfl) rfl ?_
    refine H_y 10 rfl (by kernel_rfl) (by kernel_rfl) (by kernel_rfl) (HSub.refl _) rfl (y_assign rfl) rfl ?_
    refine H_done (by kernel_rfl) ?_
    refine C_ret ?_
    refine B_ret (rv_tmp rfl (rv_tmp rfl (rv_tmp rfl rv_nil))) (hsub (.cons _ (.refl _))) ?_
    exact ⟨rfl, rfl⟩

theorem of_s {w0 : World} {H : Hp} (segs size a : Int) : FnS Try.prog w0 40 #[shV segs size, .int .i64 a] H (fun e H' => e = .returned (.tuple #[.int .i64 ((ofS segs size a).getD 0), .int .i64 (if (ofS segs size a).isSome then (a - 2) % size else 0), .bool (ofS segs size a).isSome]) ∧ H' = H) := by
  cases hm : mayG segs size with
  | false => rw [ofS_no (.inl hm)]; exact of_n segs size hm a
  | true =>
    by_cases h1 : a < 2 ∨ 2 + segs * size ≤ a
    · rw [ofS_no (.inr h1)]; exact of_o segs size hm a h1
    · rw [ofS_yes hm (by omega) (by omega)]; exact of_y segs size hm a (by omega) (by omega)

end Go.Proofs.Ytaeooiogjhkjfaa

/- walks (own work; the walks' lines by a program of this repo). -/
set_option linter.unusedVariables false
set_option linter.unusedSimpArgs false
set_option maxRecDepth 20000
namespace Go.Proofs.Ytaeooiogjhkjfaa
open Go.Sl
attribute [local irreducible] BodyQ WpC WpL WpS WpH OpW FnS


theorem xnew_s {w0 : World} {H : Hp} (segs size : Int) : FnS Try.prog w0 28 #[shV segs size] H (fun e H' => ∃ o : Xo, e = .returned (ptr o.b) ∧ H' = o.seg 129 segs size Gm.new Gm.new :: H) := by
  refine FnS_intro (n := 8) (rs := [.tmp 2]) (vs := [shV segs size]) Try.func28 rfl Try.ntmps28 rfl rfl ?_
  refine C_seq ?_
  refine C_region ?_
  refine L_op rfl (op_box rfl rfl rfl (fun B1 => ?_))
  refine L_y rfl (y_assign rfl) rfl ?_
  refine L_nil ?_
  refine C_seq ?_
  refine C_region ?_
  refine L_y rfl (y_loadA rfl ag_51 sz_51 (sees 0 0 rfl) (Nat.le_of_ble_eq_true rfl) rfl) rfl ?_
  refine L_op rfl (op_makeMapG .u64 rfl (fun B2 => ?_))
  refine L_op rfl (op_makeMapG .i64 rfl (fun B3 => ?_))
  refine L_y rfl (y_build (vs := [(0, _), (1, _), (2, _)]) (l := [.int .i64 segs, .int .i64 size, .map (some B2), .map (some B3)]) rfl pl_129 zl_129 (fill_cons (off := 0) (m := 2) (vs := [_, _]) rfl rfl rfl (Nat.le_of_ble_eq_true rfl) (fill_cons (off := 2) (m := 1) (vs := [_]) rfl rfl rfl (Nat.le_of_ble_eq_true rfl) (fill_cons (off := 3) (m := 1) (vs := [_]) rfl rfl rfl (Nat.le_of_ble_eq_true rfl) rfl)))) rfl ?_
  refine L_op rfl (op_box rfl rfl rfl (fun B4 => ?_))
  refine L_y rfl (y_assign rfl) rfl ?_
  refine L_nil ?_
  refine C_ret ?_
  refine B_ret (rv_tmp rfl rv_nil) (xgroup (o := ⟨B4, B2, B3⟩) rfl) ?_
  exact ⟨⟨B4, B2, B3⟩, rfl, rfl⟩

theorem slot_0 {w0 : World} {H : Hp} {o : Xo} {segs size : Int} {A L : Gm} (n : Nat) (a : Int) (h0 : n = 0) : FnS Try.prog w0 75 #[ptr o.b, .int .u64 (n : Int), .int .i64 a] (o.seg 129 segs size A L :: H) (fun e H' => e = .returned (.tuple #[.int .i64 0, .int .i64 1]) ∧ H' = o.seg 129 segs size A L :: H) := by
  refine FnS_intro (n := 30) (rs := [.tmp 6, .tmp 7]) (vs := [ptr o.b, .int .u64 (n : Int), .int .i64 a]) Try.func75 rfl Try.ntmps75 rfl rfl ?_
  refine C_seq ?_
  refine C_region ?_
  refine L_y rfl (y_assign rfl) rfl ?_
  refine L_y rfl (y_assign rfl) rfl ?_
  refine L_nil ?_
  refine C_seq ?_
  refine C_seq ?_
  refine C_region ?_
  refine L_y rfl (y_move rfl) rfl ?_
  refine L_y rfl (y_eqp rfl rfl Try.underlying55) rfl ?_
  refine L_y rfl (y_move rfl) rfl ?_
  refine L_y rfl (y_move rfl) rfl ?_
  refine L_y rfl (y_eqi rfl rfl) rfl ?_
  refine L_y rfl (y_pick_f rfl rfl) rfl ?_
  refine L_nil ?_
  refine C_cond rfl (fun hc0 => ?_) (fun hc0 => absurd hc0 (by simp [h0]))
  refine C_seq ?_
  refine C_region ?_
  refine L_y rfl (y_assign rfl) rfl ?_
  refine L_y rfl (y_assign rfl) rfl ?_
  refine L_nil ?_
  refine C_ret ?_
  refine B_ret (rv_tmp rfl (rv_tmp rfl rv_nil)) ((hsub (.cons_cons _ (.refl _))).trans (hsub_pick [0] rfl)) ?_
  exact ⟨rfl, rfl⟩

theorem slot_n {w0 : World} {H : Hp} {o : Xo} {segs size : Int} {A L : Gm} (n : Nat) (a : Int) (h0 : n ≠ 0) : FnS Try.prog w0 75 #[ptr o.b, .int .u64 (n : Int), .int .i64 a] (o.seg 129 segs size A L :: H) (fun e H' => e = .returned (.tuple #[.int .i64 ((ofS segs size a).getD 0), .int .i64 (if (ofS segs size a).isSome then 0 else 2)]) ∧ H' = o.seg 129 segs size A L :: H) := by
  refine FnS_intro (n := 30) (rs := [.tmp 6, .tmp 7]) (vs := [ptr o.b, .int .u64 (n : Int), .int .i64 a]) Try.func75 rfl Try.ntmps75 rfl rfl ?_
  refine C_seq ?_
  refine C_region ?_
  refine L_y rfl (y_assign rfl) rfl ?_
  refine L_y rfl (y_assign rfl) rfl ?_
  refine L_nil ?_
  refine C_seq ?_
  refine C_seq ?_
  refine C_region ?_
  refine L_y rfl (y_move rfl) rfl ?_
  refine L_y rfl (y_eqp rfl rfl Try.underlying55) rfl ?_
  refine L_y rfl (y_move rfl) rfl ?_
  refine L_y rfl (y_move rfl) rfl ?_
  refine L_y rfl (y_eqi rfl rfl) rfl ?_
  refine L_y rfl (y_pick_f rfl rfl) rfl ?_
  refine L_nil ?_
  refine C_cond rfl (fun hc0 => absurd hc0 (by simp <;> omega)) (fun hc0 => ?_)
  refine C_skip ?_
  refine C_seq ?_
  refine C_region ?_
  refine L_y rfl (y_move rfl) rfl ?_
  refine L_y rfl (y_nilCheck rfl) rfl ?_
  refine L_y rfl (y_fieldAddr rfl fl_129_0) rfl ?_
  refine L_y rfl (y_loadA rfl ag_51 sz_51 (sees 0 0 rfl) (Nat.le_of_ble_eq_true rfl) rfl) rfl ?_
  refine L_y rfl (y_move rfl) rfl ?_
  refine L_op rfl (op_call rfl rfl (fun a w => Try.call40 a w) rfl ?_)
  refine (of_s segs size a).mono ?_
  rintro _ _ ⟨rfl, e⟩
  obtain rfl := e.symm
  clear e
  refine ⟨_, rfl, ?_⟩
  refine L_y rfl (y_move rfl) rfl ?_
  refine L_y rfl (y_extract rfl rfl) rfl ?_
  refine L_y rfl (y_extract rfl rfl) rfl ?_
  refine L_y rfl (y_extract rfl rfl) rfl ?_
  refine L_y rfl (y_assign rfl) rfl ?_
  refine L_y rfl (y_assign rfl) rfl ?_
  refine L_y rfl (y_assign rfl) rfl ?_
  refine L_nil ?_
  refine C_seq ?_
  refine C_seq ?_
  refine C_region ?_
  refine L_y rfl (y_move rfl) rfl ?_
  refine L_y rfl (y_not rfl) rfl ?_
  refine L_nil ?_
  refine C_cond rfl (fun hc1 => ?_) (fun hc1 => ?_)
  · skip
    refine C_seq ?_
    refine C_region ?_
    refine L_y rfl (y_assign rfl) rfl ?_
    refine L_y rfl (y_assign rfl) rfl ?_
    refine L_nil ?_
    refine C_ret ?_
    refine B_ret (rv_tmp rfl (rv_tmp rfl rv_nil)) ((hsub (.cons_cons _ (.refl _))).trans (hsub_pick [0] rfl)) ?_
    refine ⟨?_, rfl⟩
    cases hq : ofS segs size a <;> rw [hq] at hc1 <;> first | rfl | exact absurd hc1 (by simp)
  · skip
    refine C_skip ?_
    refine C_seq ?_
    refine C_region ?_
    refine L_y rfl (y_move rfl) rfl ?_
    refine L_y rfl (y_assign rfl) rfl ?_
    refine L_y rfl (y_assign rfl) rfl ?_
    refine L_nil ?_
    refine C_ret ?_
    refine B_ret (rv_tmp rfl (rv_tmp rfl rv_nil)) ((hsub (.cons_cons _ (.refl _))).trans (hsub_pick [0] rfl)) ?_
    refine ⟨?_, rfl⟩
    cases hq : ofS segs size a <;> rw [hq] at hc1 <;> first | rfl | exact absurd hc1 (by simp)

theorem xput_0 {w0 : World} {H : Hp} {o : Xo} {segs size : Int} {l : Xl} {A L : Gm} (h : Xm segs size l A L) (n : Nat) (hn : n < 18446744073709551616) (a : Int) (hl : l.length < 4611686018427387904) (h0 : n = 0) : FnS Try.prog w0 29 #[ptr o.b, .int .u64 (n : Int), .int .i64 a] (o.seg 129 segs size A L :: H) (fun e H' => e = .returned (.int .i64 (xput segs size l n a false).2) ∧ ∃ A' L', Xm segs size (xput segs size l n a false).1 A' L' ∧ H' = o.seg 129 segs size A' L' :: H) := by
  refine FnS_intro (n := 44) (rs := [.tmp 6]) (vs := [ptr o.b, .int .u64 (n : Int), .int .i64 a]) Try.func29 rfl Try.ntmps29 rfl rfl ?_
  refine C_seq ?_
  refine C_region ?_
  refine L_y rfl (y_assign rfl) rfl ?_
  refine L_nil ?_
  refine C_seq ?_
  refine C_region ?_
  refine L_y rfl (y_move rfl) rfl ?_
  refine L_y rfl (y_move rfl) rfl ?_
  refine L_y rfl (y_move rfl) rfl ?_
  refine L_op rfl (op_call rfl rfl (fun a w => Try.call75 a w) rfl ?_)
  refine (slot_0 n a h0).mono ?_
  rintro _ _ ⟨rfl, rfl⟩
  refine ⟨_, rfl, ?_⟩
  refine L_y rfl (y_move rfl) rfl ?_
  refine L_y rfl (y_extract rfl rfl) rfl ?_
  refine L_y rfl (y_extract rfl rfl) rfl ?_
  refine L_y rfl (y_assign rfl) rfl ?_
  refine L_y rfl (y_assign rfl) rfl ?_
  refine L_nil ?_
  refine C_seq ?_
  refine C_seq ?_
  refine C_region ?_
  refine L_y rfl (y_move rfl) rfl ?_
  refine L_y rfl (y_nei rfl rfl) rfl ?_
  refine L_nil ?_
  refine C_cond_t rfl ?_
  refine C_seq ?_
  refine C_region ?_
  refine L_y rfl (y_move rfl) rfl ?_
  refine L_y rfl (y_assign rfl) rfl ?_
  refine L_nil ?_
  refine C_ret ?_
  refine B_ret (rv_tmp rfl rv_nil) ((hsub (.cons_cons _ (.refl _))).trans (hsub_pick [0] rfl)) ?_
  have e4 : xput segs size l n a false = (l, 1) := by simp [xput, h0]
  rw [e4]
  exact ⟨rfl, A, L, h, rfl⟩

theorem xput_r {w0 : World} {H : Hp} {o : Xo} {segs size : Int} {l : Xl} {A L : Gm} (h : Xm segs size l A L) (n : Nat) (hn : n < 18446744073709551616) (a : Int) (hl : l.length < 4611686018427387904) (h0 : n ≠ 0) (ho : ofS segs size a = none) : FnS Try.prog w0 29 #[ptr o.b, .int .u64 (n : Int), .int .i64 a] (o.seg 129 segs size A L :: H) (fun e H' => e = .returned (.int .i64 (xput segs size l n a false).2) ∧ ∃ A' L', Xm segs size (xput segs size l n a false).1 A' L' ∧ H' = o.seg 129 segs size A' L' :: H) := by
  refine FnS_intro (n := 44) (rs := [.tmp 6]) (vs := [ptr o.b, .int .u64 (n : Int), .int .i64 a]) Try.func29 rfl Try.ntmps29 rfl rfl ?_
  refine C_seq ?_
  refine C_region ?_
  refine L_y rfl (y_assign rfl) rfl ?_
  refine L_nil ?_
  refine C_seq ?_
  refine C_region ?_
  refine L_y rfl (y_move rfl) rfl ?_
  refine L_y rfl (y_move rfl) rfl ?_
  refine L_y rfl (y_move rfl) rfl ?_
  refine L_op rfl (op_call rfl rfl (fun a w => Try.call75 a w) rfl ?_)
  have hz := slot_n (w0 := w0) (H := H) (o := o) (segs := segs) (size := size) (A := A) (L := L) n a h0
  rw [ho] at hz
  try simp only [Option.getD_some, Option.isSome_some, if_true] at hz
  refine hz.mono ?_
  rintro _ _ ⟨rfl, rfl⟩
  refine ⟨_, rfl, ?_⟩
  refine L_y rfl (y_move rfl) rfl ?_
  refine L_y rfl (y_extract rfl rfl) rfl ?_
  refine L_y rfl (y_extract rfl rfl) rfl ?_
  refine L_y rfl (y_assign rfl) rfl ?_
  refine L_y rfl (y_assign rfl) rfl ?_
  refine L_nil ?_
  refine C_seq ?_
  refine C_seq ?_
  refine C_region ?_
  refine L_y rfl (y_move rfl) rfl ?_
  refine L_y rfl (y_nei rfl rfl) rfl ?_
  refine L_nil ?_
  refine C_cond_t rfl ?_
  refine C_seq ?_
  refine C_region ?_
  refine L_y rfl (y_move rfl) rfl ?_
  refine L_y rfl (y_assign rfl) rfl ?_
  refine L_nil ?_
  refine C_ret ?_
  refine B_ret (rv_tmp rfl rv_nil) ((hsub (.cons_cons _ (.refl _))).trans (hsub_pick [0] rfl)) ?_
  have e4 : xput segs size l n a false = (l, 2) := by simp [xput, h0, ho]
  rw [e4]
  exact ⟨rfl, A, L, h, rfl⟩

theorem xmove_0 {w0 : World} {H : Hp} {o : Xo} {segs size : Int} {l : Xl} {A L : Gm} (h : Xm segs size l A L) (n : Nat) (hn : n < 18446744073709551616) (a : Int) (hl : l.length < 4611686018427387904) (h0 : n = 0) : FnS Try.prog w0 42 #[ptr o.b, .int .u64 (n : Int), .int .i64 a] (o.seg 129 segs size A L :: H) (fun e H' => e = .returned (.int .i64 (xput segs size l n a true).2) ∧ ∃ A' L', Xm segs size (xput segs size l n a true).1 A' L' ∧ H' = o.seg 129 segs size A' L' :: H) := by
  refine FnS_intro (n := 65) (rs := [.tmp 6]) (vs := [ptr o.b, .int .u64 (n : Int), .int .i64 a]) Try.func42 rfl Try.ntmps42 rfl rfl ?_
  refine C_seq ?_
  refine C_region ?_
  refine L_y rfl (y_assign rfl) rfl ?_
  refine L_nil ?_
  refine C_seq ?_
  refine C_region ?_
  refine L_y rfl (y_move rfl) rfl ?_
  refine L_y rfl (y_move rfl) rfl ?_
  refine L_y rfl (y_move rfl) rfl ?_
  refine L_op rfl (op_call rfl rfl (fun a w => Try.call75 a w) rfl ?_)
  refine (slot_0 n a h0).mono ?_
  rintro _ _ ⟨rfl, rfl⟩
  refine ⟨_, rfl, ?_⟩
  refine L_y rfl (y_move rfl) rfl ?_
  refine L_y rfl (y_extract rfl rfl) rfl ?_
  refine L_y rfl (y_extract rfl rfl) rfl ?_
  refine L_y rfl (y_assign rfl) rfl ?_
  refine L_y rfl (y_assign rfl) rfl ?_
  refine L_nil ?_
  refine C_seq ?_
  refine C_seq ?_
  refine C_region ?_
  refine L_y rfl (y_move rfl) rfl ?_
  refine L_y rfl (y_nei rfl rfl) rfl ?_
  refine L_nil ?_
  refine C_cond_t rfl ?_
  refine C_seq ?_
  refine C_region ?_
  refine L_y rfl (y_move rfl) rfl ?_
  refine L_y rfl (y_assign rfl) rfl ?_
  refine L_nil ?_
  refine C_ret ?_
  refine B_ret (rv_tmp rfl rv_nil) ((hsub (.cons_cons _ (.refl _))).trans (hsub_pick [0] rfl)) ?_
  have e4 : xput segs size l n a true = (l, 1) := by simp [xput, h0]
  rw [e4]
  exact ⟨rfl, A, L, h, rfl⟩

theorem xmove_r {w0 : World} {H : Hp} {o : Xo} {segs size : Int} {l : Xl} {A L : Gm} (h : Xm segs size l A L) (n : Nat) (hn : n < 18446744073709551616) (a : Int) (hl : l.length < 4611686018427387904) (h0 : n ≠ 0) (ho : ofS segs size a = none) : FnS Try.prog w0 42 #[ptr o.b, .int .u64 (n : Int), .int .i64 a] (o.seg 129 segs size A L :: H) (fun e H' => e = .returned (.int .i64 (xput segs size l n a true).2) ∧ ∃ A' L', Xm segs size (xput segs size l n a true).1 A' L' ∧ H' = o.seg 129 segs size A' L' :: H) := by
  refine FnS_intro (n := 65) (rs := [.tmp 6]) (vs := [ptr o.b, .int .u64 (n : Int), .int .i64 a]) Try.func42 rfl Try.ntmps42 rfl rfl ?_
  refine C_seq ?_
  refine C_region ?_
  refine L_y rfl (y_assign rfl) rfl ?_
  refine L_nil ?_
  refine C_seq ?_
  refine C_region ?_
  refine L_y rfl (y_move rfl) rfl ?_
  refine L_y rfl (y_move rfl) rfl ?_
  refine L_y rfl (y_move rfl) rfl ?_
  refine L_op rfl (op_call rfl rfl (fun a w => Try.call75 a w) rfl ?_)
  have hz := slot_n (w0 := w0) (H := H) (o := o) (segs := segs) (size := size) (A := A) (L := L) n a h0
  rw [ho] at hz
  try simp only [Option.getD_some, Option.isSome_some, if_true] at hz
  refine hz.mono ?_
  rintro _ _ ⟨rfl, rfl⟩
  refine ⟨_, rfl, ?_⟩
  refine L_y rfl (y_move rfl) rfl ?_
  refine L_y rfl (y_extract rfl rfl) rfl ?_
  refine L_y rfl (y_extract rfl rfl) rfl ?_
  refine L_y rfl (y_assign rfl) rfl ?_
  refine L_y rfl (y_assign rfl) rfl ?_
  refine L_nil ?_
  refine C_seq ?_
  refine C_seq ?_
  refine C_region ?_
  refine L_y rfl (y_move rfl) rfl ?_
  refine L_y rfl (y_nei rfl rfl) rfl ?_
  refine L_nil ?_
  refine C_cond_t rfl ?_
  refine C_seq ?_
  refine C_region ?_
  refine L_y rfl (y_move rfl) rfl ?_
  refine L_y rfl (y_assign rfl) rfl ?_
  refine L_nil ?_
  refine C_ret ?_
  refine B_ret (rv_tmp rfl rv_nil) ((hsub (.cons_cons _ (.refl _))).trans (hsub_pick [0] rfl)) ?_
  have e4 : xput segs size l n a true = (l, 2) := by simp [xput, h0, ho]
  rw [e4]
  exact ⟨rfl, A, L, h, rfl⟩

theorem xput_t {w0 : World} {H : Hp} {o : Xo} {segs size : Int} {l : Xl} {A L : Gm} (h : Xm segs size l A L) (n : Nat) (hn : n < 18446744073709551616) (a : Int) (hl : l.length < 4611686018427387904) (h0 : n ≠ 0) {s : Int} (ho : ofS segs size a = some s) {b : Int} (hf : xfind l n = some b) : FnS Try.prog w0 29 #[ptr o.b, .int .u64 (n : Int), .int .i64 a] (o.seg 129 segs size A L :: H) (fun e H' => e = .returned (.int .i64 (xput segs size l n a false).2) ∧ ∃ A' L', Xm segs size (xput segs size l n a false).1 A' L' ∧ H' = o.seg 129 segs size A' L' :: H) := by
  refine FnS_intro (n := 44) (rs := [.tmp 6]) (vs := [ptr o.b, .int .u64 (n : Int), .int .i64 a]) Try.func29 rfl Try.ntmps29 rfl rfl ?_
  refine C_seq ?_
  refine C_region ?_
  refine L_y rfl (y_assign rfl) rfl ?_
  refine L_nil ?_
  refine C_seq ?_
  refine C_region ?_
  refine L_y rfl (y_move rfl) rfl ?_
  refine L_y rfl (y_move rfl) rfl ?_
  refine L_y rfl (y_move rfl) rfl ?_
  refine L_op rfl (op_call rfl rfl (fun a w => Try.call75 a w) rfl ?_)
  have hz := slot_n (w0 := w0) (H := H) (o := o) (segs := segs) (size := size) (A := A) (L := L) n a h0
  rw [ho] at hz
  try simp only [Option.getD_some, Option.isSome_some, if_true] at hz
  refine hz.mono ?_
  rintro _ _ ⟨rfl, rfl⟩
  refine ⟨_, rfl, ?_⟩
  refine L_y rfl (y_move rfl) rfl ?_
  refine L_y rfl (y_extract rfl rfl) rfl ?_
  refine L_y rfl (y_extract rfl rfl) rfl ?_
  refine L_y rfl (y_assign rfl) rfl ?_
  refine L_y rfl (y_assign rfl) rfl ?_
  refine L_nil ?_
  refine C_seq ?_
  refine C_seq ?_
  refine C_region ?_
  refine L_y rfl (y_move rfl) rfl ?_
  refine L_y rfl (y_nei rfl rfl) rfl ?_
  refine L_nil ?_
  refine C_cond_f rfl ?_
  refine C_skip ?_
  refine C_seq ?_
  refine C_seq ?_
  refine C_region ?_
  refine L_y rfl (y_move rfl) rfl ?_
  refine L_y rfl (y_nilCheck rfl) rfl ?_
  refine L_y rfl (y_fieldAddr rfl fl_129_1) rfl ?_
  refine L_y rfl (y_load rfl ag_126 (sees 0 0 rfl) rfl) rfl ?_
  refine L_y rfl (y_move rfl) rfl ?_
  refine L_y rfl (y_lookupG2 rfl rfl Try.underlying126 Try.underlying58 zt_3 (sees 0 1 rfl)) rfl ?_
  rw [h.get, hf]
  refine L_y rfl (y_move rfl) rfl ?_
  refine L_y rfl (y_extract rfl rfl) rfl ?_
  refine L_y rfl (y_extract rfl rfl) rfl ?_
  refine L_y rfl (y_assign rfl) rfl ?_
  refine L_y rfl (y_assign rfl) rfl ?_
  refine L_nil ?_
  refine C_seq ?_
  refine C_region ?_
  refine L_y rfl (y_move rfl) rfl ?_
  refine L_nil ?_
  refine C_cond_t rfl ?_
  refine C_seq ?_
  refine C_region ?_
  refine L_y rfl (y_assign rfl) rfl ?_
  refine L_nil ?_
  refine C_ret ?_
  refine B_ret (rv_tmp rfl rv_nil) ((hsub (.cons_cons _ (.refl _))).trans (hsub_pick [0] rfl)) ?_
  have e4 : xput segs size l n a false = (l, 5) := by simp [xput, h0, ho, hf]
  rw [e4]
  exact ⟨rfl, A, L, h, rfl⟩

theorem xput_y {w0 : World} {H : Hp} {o : Xo} {segs size : Int} {l : Xl} {A L : Gm} (h : Xm segs size l A L) (n : Nat) (hn : n < 18446744073709551616) (a : Int) (hl : l.length < 4611686018427387904) (h0 : n ≠ 0) {s : Int} (ho : ofS segs size a = some s) (hf : xfind l n = none) : FnS Try.prog w0 29 #[ptr o.b, .int .u64 (n : Int), .int .i64 a] (o.seg 129 segs size A L :: H) (fun e H' => e = .returned (.int .i64 (xput segs size l n a false).2) ∧ ∃ A' L', Xm segs size (xput segs size l n a false).1 A' L' ∧ H' = o.seg 129 segs size A' L' :: H) := by
  have hc := cnt_le segs size l s
  refine FnS_intro (n := 44) (rs := [.tmp 6]) (vs := [ptr o.b, .int .u64 (n : Int), .int .i64 a]) Try.func29 rfl Try.ntmps29 rfl rfl ?_
  refine C_seq ?_
  refine C_region ?_
  refine L_y rfl (y_assign rfl) rfl ?_
  refine L_nil ?_
  refine C_seq ?_
  refine C_region ?_
  refine L_y rfl (y_move rfl) rfl ?_
  refine L_y rfl (y_move rfl) rfl ?_
  refine L_y rfl (y_move rfl) rfl ?_
  refine L_op rfl (op_call rfl rfl (fun a w => Try.call75 a w) rfl ?_)
  have hz := slot_n (w0 := w0) (H := H) (o := o) (segs := segs) (size := size) (A := A) (L := L) n a h0
  rw [ho] at hz
  try simp only [Option.getD_some, Option.isSome_some, if_true] at hz
  refine hz.mono ?_
  rintro _ _ ⟨rfl, rfl⟩
  refine ⟨_, rfl, ?_⟩
  refine L_y rfl (y_move rfl) rfl ?_
  refine L_y rfl (y_extract rfl rfl) rfl ?_
  refine L_y rfl (y_extract rfl rfl) rfl ?_
  refine L_y rfl (y_assign rfl) rfl ?_
  refine L_y rfl (y_assign rfl) rfl ?_
  refine L_nil ?_
  refine C_seq ?_
  refine C_seq ?_
  refine C_region ?_
  refine L_y rfl (y_move rfl) rfl ?_
  refine L_y rfl (y_nei rfl rfl) rfl ?_
  refine L_nil ?_
  refine C_cond_f rfl ?_
  refine C_skip ?_
  refine C_seq ?_
  refine C_seq ?_
  refine C_region ?_
  refine L_y rfl (y_move rfl) rfl ?_
  refine L_y rfl (y_nilCheck rfl) rfl ?_
  refine L_y rfl (y_fieldAddr rfl fl_129_1) rfl ?_
  refine L_y rfl (y_load rfl ag_126 (sees 0 0 rfl) rfl) rfl ?_
  refine L_y rfl (y_move rfl) rfl ?_
  refine L_y rfl (y_lookupG2 rfl rfl Try.underlying126 Try.underlying58 zt_3 (sees 0 1 rfl)) rfl ?_
  rw [h.get, hf]
  refine L_y rfl (y_move rfl) rfl ?_
  refine L_y rfl (y_extract rfl rfl) rfl ?_
  refine L_y rfl (y_extract rfl rfl) rfl ?_
  refine L_y rfl (y_assign rfl) rfl ?_
  refine L_y rfl (y_assign rfl) rfl ?_
  refine L_nil ?_
  refine C_seq ?_
  refine C_region ?_
  refine L_y rfl (y_move rfl) rfl ?_
  refine L_nil ?_
  refine C_cond_f rfl ?_
  refine C_skip ?_
  refine C_seq ?_
  refine C_region ?_
  refine L_y rfl (y_move rfl) rfl ?_
  refine L_y rfl (y_nilCheck rfl) rfl ?_
  refine L_y rfl (y_fieldAddr rfl fl_129_1) rfl ?_
  refine L_y rfl (y_load rfl ag_126 (sees 0 0 rfl) rfl) rfl ?_
  refine L_y rfl (y_move rfl) rfl ?_
  refine L_y rfl (y_move rfl) rfl ?_
  refine L_op rfl (op_mapUpdateG 0 1 rfl rfl rfl Try.underlying126 Try.underlying58 h.okA rfl rfl ?_)
  refine L_nil ?_
  refine C_seq ?_
  refine C_region ?_
  refine L_y rfl (y_move rfl) rfl ?_
  refine L_y rfl (y_nilCheck rfl) rfl ?_
  refine L_y rfl (y_fieldAddr rfl fl_129_2) rfl ?_
  refine L_y rfl (y_load rfl ag_127 (sees 0 0 rfl) rfl) rfl ?_
  refine L_y rfl (y_move rfl) rfl ?_
  refine L_y rfl (y_lookupG rfl rfl Try.underlying127 Try.underlying3 zt_3 (sees 0 2 rfl)) rfl ?_
  rw [h.liv]
  refine L_y rfl (y_add rfl rfl (wi64 (by omega) (by omega))) rfl ?_
  refine L_op rfl (op_mapUpdateG 0 2 rfl rfl rfl Try.underlying127 Try.underlying3 h.okL rfl rfl ?_)
  refine L_nil ?_
  refine C_seq ?_
  refine C_region ?_
  refine L_y rfl (y_assign rfl) rfl ?_
  refine L_nil ?_
  refine C_ret ?_
  refine B_ret (rv_tmp rfl rv_nil) ((hsub (.cons_cons _ (.refl _))).trans (hsub_pick [0] rfl)) ?_
  have e4 : xput segs size l n a false = (xins l n a, 0) := by simp [xput, h0, ho, hf]
  rw [e4]
  exact ⟨rfl, _, _, h.put h0 hn hf ho, rfl⟩

theorem xmove_n {w0 : World} {H : Hp} {o : Xo} {segs size : Int} {l : Xl} {A L : Gm} (h : Xm segs size l A L) (n : Nat) (hn : n < 18446744073709551616) (a : Int) (hl : l.length < 4611686018427387904) (h0 : n ≠ 0) {s : Int} (ho : ofS segs size a = some s) (hf : xfind l n = none) : FnS Try.prog w0 42 #[ptr o.b, .int .u64 (n : Int), .int .i64 a] (o.seg 129 segs size A L :: H) (fun e H' => e = .returned (.int .i64 (xput segs size l n a true).2) ∧ ∃ A' L', Xm segs size (xput segs size l n a true).1 A' L' ∧ H' = o.seg 129 segs size A' L' :: H) := by
  refine FnS_intro (n := 65) (rs := [.tmp 6]) (vs := [ptr o.b, .int .u64 (n : Int), .int .i64 a]) Try.func42 rfl Try.ntmps42 rfl rfl ?_
  refine C_seq ?_
  refine C_region ?_
  refine L_y rfl (y_assign rfl) rfl ?_
  refine L_nil ?_
  refine C_seq ?_
  refine C_region ?_
  refine L_y rfl (y_move rfl) rfl ?_
  refine L_y rfl (y_move rfl) rfl ?_
  refine L_y rfl (y_move rfl) rfl ?_
  refine L_op rfl (op_call rfl rfl (fun a w => Try.call75 a w) rfl ?_)
  have hz := slot_n (w0 := w0) (H := H) (o := o) (segs := segs) (size := size) (A := A) (L := L) n a h0
  rw [ho] at hz
  try simp only [Option.getD_some, Option.isSome_some, if_true] at hz
  refine hz.mono ?_
  rintro _ _ ⟨rfl, rfl⟩
  refine ⟨_, rfl, ?_⟩
  refine L_y rfl (y_move rfl) rfl ?_
  refine L_y rfl (y_extract rfl rfl) rfl ?_
  refine L_y rfl (y_extract rfl rfl) rfl ?_
  refine L_y rfl (y_assign rfl) rfl ?_
  refine L_y rfl (y_assign rfl) rfl ?_
  refine L_nil ?_
  refine C_seq ?_
  refine C_seq ?_
  refine C_region ?_
  refine L_y rfl (y_move rfl) rfl ?_
  refine L_y rfl (y_nei rfl rfl) rfl ?_
  refine L_nil ?_
  refine C_cond_f rfl ?_
  refine C_skip ?_
  refine C_seq ?_
  refine C_region ?_
  refine L_y rfl (y_move rfl) rfl ?_
  refine L_y rfl (y_nilCheck rfl) rfl ?_
  refine L_y rfl (y_fieldAddr rfl fl_129_1) rfl ?_
  refine L_y rfl (y_load rfl ag_126 (sees 0 0 rfl) rfl) rfl ?_
  refine L_y rfl (y_move rfl) rfl ?_
  refine L_y rfl (y_lookupG2 rfl rfl Try.underlying126 Try.underlying58 zt_3 (sees 0 1 rfl)) rfl ?_
  rw [h.get, hf]
  refine L_y rfl (y_move rfl) rfl ?_
  refine L_y rfl (y_extract rfl rfl) rfl ?_
  refine L_y rfl (y_extract rfl rfl) rfl ?_
  refine L_y rfl (y_assign rfl) rfl ?_
  refine L_y rfl (y_assign rfl) rfl ?_
  refine L_nil ?_
  refine C_seq ?_
  refine C_seq ?_
  refine C_region ?_
  refine L_y rfl (y_move rfl) rfl ?_
  refine L_y rfl (y_not rfl) rfl ?_
  refine L_nil ?_
  refine C_cond_t rfl ?_
  refine C_seq ?_
  refine C_region ?_
  refine L_y rfl (y_assign rfl) rfl ?_
  refine L_nil ?_
  refine C_ret ?_
  refine B_ret (rv_tmp rfl rv_nil) ((hsub (.cons_cons _ (.refl _))).trans (hsub_pick [0] rfl)) ?_
  have e4 : xput segs size l n a true = (l, 4) := by simp [xput, h0, ho, hf]
  rw [e4]
  exact ⟨rfl, A, L, h, rfl⟩

theorem xmove_y {w0 : World} {H : Hp} {o : Xo} {segs size : Int} {l : Xl} {A L : Gm} (h : Xm segs size l A L) (n : Nat) (hn : n < 18446744073709551616) (a : Int) (hl : l.length < 4611686018427387904) (h0 : n ≠ 0) {s : Int} (ho : ofS segs size a = some s) {b t : Int} (hf : xfind l n = some b) (hb : ofS segs size b = some t) : FnS Try.prog w0 42 #[ptr o.b, .int .u64 (n : Int), .int .i64 a] (o.seg 129 segs size A L :: H) (fun e H' => e = .returned (.int .i64 (xput segs size l n a true).2) ∧ ∃ A' L', Xm segs size (xput segs size l n a true).1 A' L' ∧ H' = o.seg 129 segs size A' L' :: H) := by
  have hc := cnt_le segs size l s
  have hc2 := cnt_le segs size l t
  obtain ⟨c, hcc⟩ : ∃ c : Int, c = cnt18 segs size l s - (if s = t then 1 else 0) := ⟨_, rfl⟩
  have hdc := xdel_cnt (segs := segs) (size := size) h.s hf t
  rw [hb, if_pos rfl] at hdc
  have hc3 : -1 ≤ c ∧ c ≤ 4611686018427387904 := by split at hcc <;> omega
  have hg2 : (((L.put t (.int .i64 (cnt18 segs size l t - 1 : Int))).get s).getD (.int .i64 0)) = .int .i64 c := by
    rw [Gm.get_put, hcc]
    by_cases e : s = t
    · subst e; rw [if_pos rfl, if_pos rfl]; rfl
    · rw [if_neg e, if_neg e, h.liv]; simp
  refine FnS_intro (n := 65) (rs := [.tmp 6]) (vs := [ptr o.b, .int .u64 (n : Int), .int .i64 a]) Try.func42 rfl Try.ntmps42 rfl rfl ?_
  refine C_seq ?_
  refine C_region ?_
  refine L_y rfl (y_assign rfl) rfl ?_
  refine L_nil ?_
  refine C_seq ?_
  refine C_region ?_
  refine L_y rfl (y_move rfl) rfl ?_
  refine L_y rfl (y_move rfl) rfl ?_
  refine L_y rfl (y_move rfl) rfl ?_
  refine L_op rfl (op_call rfl rfl (fun a w => Try.call75 a w) rfl ?_)
  have hz := slot_n (w0 := w0) (H := H) (o := o) (segs := segs) (size := size) (A := A) (L := L) n a h0
  rw [ho] at hz
  try simp only [Option.getD_some, Option.isSome_some, if_true] at hz
  refine hz.mono ?_
  rintro _ _ ⟨rfl, rfl⟩
  refine ⟨_, rfl, ?_⟩
  refine L_y rfl (y_move rfl) rfl ?_
  refine L_y rfl (y_extract rfl rfl) rfl ?_
  refine L_y rfl (y_extract rfl rfl) rfl ?_
  refine L_y rfl (y_assign rfl) rfl ?_
  refine L_y rfl (y_assign rfl) rfl ?_
  refine L_nil ?_
  refine C_seq ?_
  refine C_seq ?_
  refine C_region ?_
  refine L_y rfl (y_move rfl) rfl ?_
  refine L_y rfl (y_nei rfl rfl) rfl ?_
  refine L_nil ?_
  refine C_cond_f rfl ?_
  refine C_skip ?_
  refine C_seq ?_
  refine C_region ?_
  refine L_y rfl (y_move rfl) rfl ?_
  refine L_y rfl (y_nilCheck rfl) rfl ?_
  refine L_y rfl (y_fieldAddr rfl fl_129_1) rfl ?_
  refine L_y rfl (y_load rfl ag_126 (sees 0 0 rfl) rfl) rfl ?_
  refine L_y rfl (y_move rfl) rfl ?_
  refine L_y rfl (y_lookupG2 rfl rfl Try.underlying126 Try.underlying58 zt_3 (sees 0 1 rfl)) rfl ?_
  rw [h.get, hf]
  refine L_y rfl (y_move rfl) rfl ?_
  refine L_y rfl (y_extract rfl rfl) rfl ?_
  refine L_y rfl (y_extract rfl rfl) rfl ?_
  refine L_y rfl (y_assign rfl) rfl ?_
  refine L_y rfl (y_assign rfl) rfl ?_
  refine L_nil ?_
  refine C_seq ?_
  refine C_seq ?_
  refine C_region ?_
  refine L_y rfl (y_move rfl) rfl ?_
  refine L_y rfl (y_not rfl) rfl ?_
  refine L_nil ?_
  refine C_cond_f rfl ?_
  refine C_skip ?_
  refine C_seq ?_
  refine C_region ?_
  refine L_y rfl (y_move rfl) rfl ?_
  refine L_y rfl (y_nilCheck rfl) rfl ?_
  refine L_y rfl (y_fieldAddr rfl fl_129_0) rfl ?_
  refine L_y rfl (y_loadA rfl ag_51 sz_51 (sees 0 0 rfl) (Nat.le_of_ble_eq_true rfl) rfl) rfl ?_
  refine L_y rfl (y_move rfl) rfl ?_
  refine L_op rfl (op_call rfl rfl (fun a w => Try.call40 a w) rfl ?_)
  have hz := of_s (w0 := w0) (H := (o.seg 129 segs size A L :: H)) segs size b
  rw [hb] at hz
  try simp only [Option.getD_some, Option.isSome_some, if_true] at hz
  refine hz.mono ?_
  rintro _ _ ⟨rfl, rfl⟩
  refine ⟨_, rfl, ?_⟩
  refine L_y rfl (y_move rfl) rfl ?_
  refine L_y rfl (y_extract rfl rfl) rfl ?_
  refine L_y rfl (y_extract rfl rfl) rfl ?_
  refine L_y rfl (y_extract rfl rfl) rfl ?_
  refine L_y rfl (y_assign rfl) rfl ?_
  refine L_y rfl (y_assign rfl) rfl ?_
  refine L_y rfl (y_assign rfl) rfl ?_
  refine L_nil ?_
  refine C_seq ?_
  refine C_region ?_
  refine L_y rfl (y_move rfl) rfl ?_
  refine L_y rfl (y_nilCheck rfl) rfl ?_
  refine L_y rfl (y_fieldAddr rfl fl_129_2) rfl ?_
  refine L_y rfl (y_load rfl ag_127 (sees 0 0 rfl) rfl) rfl ?_
  refine L_y rfl (y_move rfl) rfl ?_
  refine L_y rfl (y_lookupG rfl rfl Try.underlying127 Try.underlying3 zt_3 (sees 0 2 rfl)) rfl ?_
  rw [h.liv]
  refine L_y rfl (y_sub rfl rfl (wi64 (by omega) (by omega))) rfl ?_
  refine L_op rfl (op_mapUpdateG 0 2 rfl rfl rfl Try.underlying127 Try.underlying3 h.okL rfl rfl ?_)
  refine L_nil ?_
  refine C_seq ?_
  refine C_region ?_
  refine L_y rfl (y_move rfl) rfl ?_
  refine L_y rfl (y_nilCheck rfl) rfl ?_
  refine L_y rfl (y_fieldAddr rfl fl_129_2) rfl ?_
  refine L_y rfl (y_load rfl ag_127 (sees 0 0 rfl) rfl) rfl ?_
  refine L_y rfl (y_move rfl) rfl ?_
  refine L_y rfl (y_lookupG rfl rfl Try.underlying127 Try.underlying3 zt_3 (sees 0 2 rfl)) rfl ?_
  rw [hg2]
  refine L_y rfl (y_add rfl rfl (wi64 (by omega) (by omega))) rfl ?_
  refine L_op rfl (op_mapUpdateG 0 2 rfl rfl rfl Try.underlying127 Try.underlying3 (Gm.put_ok h.okL _ _) rfl rfl ?_)
  refine L_nil ?_
  refine C_seq ?_
  refine C_region ?_
  refine L_y rfl (y_move rfl) rfl ?_
  refine L_y rfl (y_nilCheck rfl) rfl ?_
  refine L_y rfl (y_fieldAddr rfl fl_129_1) rfl ?_
  refine L_y rfl (y_load rfl ag_126 (sees 0 0 rfl) rfl) rfl ?_
  refine L_y rfl (y_move rfl) rfl ?_
  refine L_y rfl (y_move rfl) rfl ?_
  refine L_op rfl (op_mapUpdateG 0 1 rfl rfl rfl Try.underlying126 Try.underlying58 h.okA rfl rfl ?_)
  refine L_nil ?_
  refine C_seq ?_
  refine C_region ?_
  refine L_y rfl (y_assign rfl) rfl ?_
  refine L_nil ?_
  refine C_ret ?_
  refine B_ret (rv_tmp rfl rv_nil) ((hsub (.cons_cons _ (.refl _))).trans (hsub_pick [0] rfl)) ?_
  have e4 : xput segs size l n a true = (xins (xdel l n) n a, 0) := by simp [xput, h0, ho, hf]
  rw [e4]
  exact ⟨rfl, _, _, h.move hf hb ho hcc, rfl⟩

theorem xput_s {w0 : World} {H : Hp} {o : Xo} {segs size : Int} {l : Xl} {A L : Gm} (h : Xm segs size l A L) (n : Nat) (hn : n < 18446744073709551616) (a : Int) (hl : l.length < 4611686018427387904) : FnS Try.prog w0 29 #[ptr o.b, .int .u64 (n : Int), .int .i64 a] (o.seg 129 segs size A L :: H) (fun e H' => e = .returned (.int .i64 (xput segs size l n a false).2) ∧ ∃ A' L', Xm segs size (xput segs size l n a false).1 A' L' ∧ H' = o.seg 129 segs size A' L' :: H) := by
  by_cases h0 : n = 0
  · exact xput_0 h n hn a hl h0
  · cases ho : ofS segs size a with
    | none => exact xput_r h n hn a hl h0 ho
    | some s =>
      cases hf : xfind l n with
      | some b => exact xput_t h n hn a hl h0 ho hf
      | none => exact xput_y h n hn a hl h0 ho hf

theorem xmove_s {w0 : World} {H : Hp} {o : Xo} {segs size : Int} {l : Xl} {A L : Gm} (h : Xm segs size l A L) (n : Nat) (hn : n < 18446744073709551616) (a : Int) (hl : l.length < 4611686018427387904) : FnS Try.prog w0 42 #[ptr o.b, .int .u64 (n : Int), .int .i64 a] (o.seg 129 segs size A L :: H) (fun e H' => e = .returned (.int .i64 (xput segs size l n a true).2) ∧ ∃ A' L', Xm segs size (xput segs size l n a true).1 A' L' ∧ H' = o.seg 129 segs size A' L' :: H) := by
  by_cases h0 : n = 0
  · exact xmove_0 h n hn a hl h0
  · cases ho : ofS segs size a with
    | none => exact xmove_r h n hn a hl h0 ho
    | some s =>
      cases hf : xfind l n with
      | none => exact xmove_n h n hn a hl h0 ho hf
      | some b => obtain ⟨t, hb⟩ := ofS_some h hf; exact xmove_y h n hn a hl h0 ho hf hb

theorem xdrop_n {w0 : World} {H : Hp} {o : Xo} {segs size : Int} {l : Xl} {A L : Gm} (h : Xm segs size l A L) (n : Nat) (hl : l.length < 4611686018427387904) (hf : xfind l n = none) : FnS Try.prog w0 41 #[ptr o.b, .int .u64 (n : Int)] (o.seg 129 segs size A L :: H) (fun e H' => e = .returned (.int .i64 (xdrop l n).2) ∧ ∃ A' L', Xm segs size (xdrop l n).1 A' L' ∧ H' = o.seg 129 segs size A' L' :: H) := by
  refine FnS_intro (n := 45) (rs := [.tmp 4]) (vs := [ptr o.b, .int .u64 (n : Int)]) Try.func41 rfl Try.ntmps41 rfl rfl ?_
  refine C_seq ?_
  refine C_region ?_
  refine L_y rfl (y_assign rfl) rfl ?_
  refine L_nil ?_
  refine C_seq ?_
  refine C_seq ?_
  refine C_region ?_
  refine L_y rfl (y_move rfl) rfl ?_
  refine L_y rfl (y_eqp rfl rfl Try.underlying55) rfl ?_
  refine L_nil ?_
  refine C_cond_f rfl ?_
  refine C_skip ?_
  refine C_seq ?_
  refine C_region ?_
  refine L_y rfl (y_move rfl) rfl ?_
  refine L_y rfl (y_nilCheck rfl) rfl ?_
  refine L_y rfl (y_fieldAddr rfl fl_129_1) rfl ?_
  refine L_y rfl (y_load rfl ag_126 (sees 0 0 rfl) rfl) rfl ?_
  refine L_y rfl (y_move rfl) rfl ?_
  refine L_y rfl (y_lookupG2 rfl rfl Try.underlying126 Try.underlying58 zt_3 (sees 0 1 rfl)) rfl ?_
  rw [h.get, hf]
  refine L_y rfl (y_move rfl) rfl ?_
  refine L_y rfl (y_extract rfl rfl) rfl ?_
  refine L_y rfl (y_extract rfl rfl) rfl ?_
  refine L_y rfl (y_assign rfl) rfl ?_
  refine L_y rfl (y_assign rfl) rfl ?_
  refine L_nil ?_
  refine C_seq ?_
  refine C_seq ?_
  refine C_region ?_
  refine L_y rfl (y_move rfl) rfl ?_
  refine L_y rfl (y_not rfl) rfl ?_
  refine L_nil ?_
  refine C_cond_t rfl ?_
  refine C_seq ?_
  refine C_region ?_
  refine L_y rfl (y_assign rfl) rfl ?_
  refine L_nil ?_
  refine C_ret ?_
  refine B_ret (rv_tmp rfl rv_nil) ((hsub (.cons_cons _ (.refl _))).trans (hsub_pick [0] rfl)) ?_
  have e4 : xdrop l n = (l, 4) := by simp [xdrop, hf]
  rw [e4]
  exact ⟨rfl, A, L, h, rfl⟩

theorem xdrop_y {w0 : World} {H : Hp} {o : Xo} {segs size : Int} {l : Xl} {A L : Gm} (h : Xm segs size l A L) (n : Nat) (hl : l.length < 4611686018427387904) {b t : Int} (hf : xfind l n = some b) (hb : ofS segs size b = some t) : FnS Try.prog w0 41 #[ptr o.b, .int .u64 (n : Int)] (o.seg 129 segs size A L :: H) (fun e H' => e = .returned (.int .i64 (xdrop l n).2) ∧ ∃ A' L', Xm segs size (xdrop l n).1 A' L' ∧ H' = o.seg 129 segs size A' L' :: H) := by
  have hc2 := cnt_le segs size l t
  have hdc := xdel_cnt (segs := segs) (size := size) h.s hf t
  rw [hb, if_pos rfl] at hdc
  refine FnS_intro (n := 45) (rs := [.tmp 4]) (vs := [ptr o.b, .int .u64 (n : Int)]) Try.func41 rfl Try.ntmps41 rfl rfl ?_
  refine C_seq ?_
  refine C_region ?_
  refine L_y rfl (y_assign rfl) rfl ?_
  refine L_nil ?_
  refine C_seq ?_
  refine C_seq ?_
  refine C_region ?_
  refine L_y rfl (y_move rfl) rfl ?_
  refine L_y rfl (y_eqp rfl rfl Try.underlying55) rfl ?_
  refine L_nil ?_
  refine C_cond_f rfl ?_
  refine C_skip ?_
  refine C_seq ?_
  refine C_region ?_
  refine L_y rfl (y_move rfl) rfl ?_
  refine L_y rfl (y_nilCheck rfl) rfl ?_
  refine L_y rfl (y_fieldAddr rfl fl_129_1) rfl ?_
  refine L_y rfl (y_load rfl ag_126 (sees 0 0 rfl) rfl) rfl ?_
  refine L_y rfl (y_move rfl) rfl ?_
  refine L_y rfl (y_lookupG2 rfl rfl Try.underlying126 Try.underlying58 zt_3 (sees 0 1 rfl)) rfl ?_
  rw [h.get, hf]
  refine L_y rfl (y_move rfl) rfl ?_
  refine L_y rfl (y_extract rfl rfl) rfl ?_
  refine L_y rfl (y_extract rfl rfl) rfl ?_
  refine L_y rfl (y_assign rfl) rfl ?_
  refine L_y rfl (y_assign rfl) rfl ?_
  refine L_nil ?_
  refine C_seq ?_
  refine C_seq ?_
  refine C_region ?_
  refine L_y rfl (y_move rfl) rfl ?_
  refine L_y rfl (y_not rfl) rfl ?_
  refine L_nil ?_
  refine C_cond_f rfl ?_
  refine C_skip ?_
  refine C_seq ?_
  refine C_region ?_
  refine L_y rfl (y_move rfl) rfl ?_
  refine L_y rfl (y_nilCheck rfl) rfl ?_
  refine L_y rfl (y_fieldAddr rfl fl_129_0) rfl ?_
  refine L_y rfl (y_loadA rfl ag_51 sz_51 (sees 0 0 rfl) (Nat.le_of_ble_eq_true rfl) rfl) rfl ?_
  refine L_y rfl (y_move rfl) rfl ?_
  refine L_op rfl (op_call rfl rfl (fun a w => Try.call40 a w) rfl ?_)
  have hz := of_s (w0 := w0) (H := (o.seg 129 segs size A L :: H)) segs size b
  rw [hb] at hz
  try simp only [Option.getD_some, Option.isSome_some, if_true] at hz
  refine hz.mono ?_
  rintro _ _ ⟨rfl, rfl⟩
  refine ⟨_, rfl, ?_⟩
  refine L_y rfl (y_move rfl) rfl ?_
  refine L_y rfl (y_extract rfl rfl) rfl ?_
  refine L_y rfl (y_extract rfl rfl) rfl ?_
  refine L_y rfl (y_extract rfl rfl) rfl ?_
  refine L_y rfl (y_assign rfl) rfl ?_
  refine L_y rfl (y_assign rfl) rfl ?_
  refine L_y rfl (y_assign rfl) rfl ?_
  refine L_nil ?_
  refine C_seq ?_
  refine C_region ?_
  refine L_y rfl (y_move rfl) rfl ?_
  refine L_y rfl (y_nilCheck rfl) rfl ?_
  refine L_y rfl (y_fieldAddr rfl fl_129_2) rfl ?_
  refine L_y rfl (y_load rfl ag_127 (sees 0 0 rfl) rfl) rfl ?_
  refine L_y rfl (y_move rfl) rfl ?_
  refine L_y rfl (y_lookupG rfl rfl Try.underlying127 Try.underlying3 zt_3 (sees 0 2 rfl)) rfl ?_
  rw [h.liv]
  refine L_y rfl (y_sub rfl rfl (wi64 (by omega) (by omega))) rfl ?_
  refine L_op rfl (op_mapUpdateG 0 2 rfl rfl rfl Try.underlying127 Try.underlying3 h.okL rfl rfl ?_)
  refine L_nil ?_
  refine C_seq ?_
  refine C_region ?_
  refine L_y rfl (y_move rfl) rfl ?_
  refine L_y rfl (y_nilCheck rfl) rfl ?_
  refine L_y rfl (y_fieldAddr rfl fl_129_1) rfl ?_
  refine L_y rfl (y_load rfl ag_126 (sees 0 0 rfl) rfl) rfl ?_
  refine L_y rfl (y_move rfl) rfl ?_
  refine L_op rfl (op_deleteG 0 1 rfl rfl rfl Try.underlying126 Try.underlying58 h.okA rfl rfl ?_)
  refine L_nil ?_
  refine C_seq ?_
  refine C_region ?_
  refine L_y rfl (y_assign rfl) rfl ?_
  refine L_nil ?_
  refine C_ret ?_
  refine B_ret (rv_tmp rfl rv_nil) ((hsub (.cons_cons _ (.refl _))).trans (hsub_pick [0] rfl)) ?_
  have e4 : xdrop l n = (xdel l n, 0) := by simp [xdrop, hf]
  rw [e4]
  exact ⟨rfl, _, _, h.drop hf hb, rfl⟩

theorem xdrop_s {w0 : World} {H : Hp} {o : Xo} {segs size : Int} {l : Xl} {A L : Gm} (h : Xm segs size l A L) (n : Nat) (hl : l.length < 4611686018427387904) : FnS Try.prog w0 41 #[ptr o.b, .int .u64 (n : Int)] (o.seg 129 segs size A L :: H) (fun e H' => e = .returned (.int .i64 (xdrop l n).2) ∧ ∃ A' L', Xm segs size (xdrop l n).1 A' L' ∧ H' = o.seg 129 segs size A' L' :: H) := by
  cases hf : xfind l n with
  | none => exact xdrop_n h n hl hf
  | some b => obtain ⟨t, hb⟩ := ofS_some h hf; exact xdrop_y h n hl hf hb

theorem xlive_s {w0 : World} {H : Hp} {o : Xo} {segs size : Int} {l : Xl} {A L : Gm} (h : Xm segs size l A L) (s : Int) : FnS Try.prog w0 36 #[ptr o.b, .int .i64 s] (o.seg 129 segs size A L :: H) (fun e H' => e = .returned (.int .i64 (cnt18 segs size l s : Int)) ∧ H' = o.seg 129 segs size A L :: H) := by
  refine FnS_intro (n := 13) (rs := [.tmp 4]) (vs := [ptr o.b, .int .i64 s]) Try.func36 rfl Try.ntmps36 rfl rfl ?_
  refine C_seq ?_
  refine C_region ?_
  refine L_y rfl (y_assign rfl) rfl ?_
  refine L_nil ?_
  refine C_seq ?_
  refine C_seq ?_
  refine C_region ?_
  refine L_y rfl (y_move rfl) rfl ?_
  refine L_y rfl (y_eqp rfl rfl Try.underlying55) rfl ?_
  refine L_nil ?_
  refine C_cond_f rfl ?_
  refine C_skip ?_
  refine C_seq ?_
  refine C_region ?_
  refine L_y rfl (y_move rfl) rfl ?_
  refine L_y rfl (y_nilCheck rfl) rfl ?_
  refine L_y rfl (y_fieldAddr rfl fl_129_2) rfl ?_
  refine L_y rfl (y_load rfl ag_127 (sees 0 0 rfl) rfl) rfl ?_
  refine L_y rfl (y_move rfl) rfl ?_
  refine L_y rfl (y_lookupG rfl rfl Try.underlying127 Try.underlying3 zt_3 (sees 0 2 rfl)) rfl ?_
  refine L_y rfl (y_assign rfl) rfl ?_
  refine L_nil ?_
  refine C_ret ?_
  refine B_ret (rv_tmp rfl rv_nil) ((hsub (.cons_cons _ (.refl _))).trans (hsub_pick [0] rfl)) ?_
  exact ⟨by rw [h.liv]; rfl, rfl⟩

end Go.Proofs.Ytaeooiogjhkjfaa

/- walks (own work; the walks' lines by a program of this repo). -/
set_option linter.unusedVariables false
set_option linter.unusedSimpArgs false
set_option maxRecDepth 20000
namespace Go.Proofs.Ytaeooiogjhkjfaa
open Go.Sl
attribute [local irreducible] BodyQ WpC WpL WpS WpH OpW FnS


theorem done18_2 {w0 : World} {H : Hp} {o : Xo} {segs size : Int} {l ll : Xl} {A L : Gm} {g : Option SlG} (h : Xm segs size l A L) (hll : Xs ll) (hok : slOk 2 g ll.length (lcs ll)) (hl : l.length < 1000000) (hl2 : ll.length < 1000000) (d n : Nat) (hd : d < 256) (hn : n < 18446744073709551616) (a : Int) (hk : d % 4 = 2) : FnS Try.prog w0 33 #[ptr o.b, slV g ll.length, shV segs size, .agg [Value.int .u8 (d : Int), .int .u64 (n : Int), .int .i64 a].toArray] (o.seg 129 segs size A L :: slSeg 79 g (lcs ll) :: H) (fun e H' => ∃ A' L' g2, Xm segs size (dd segs size l d n a).1 A' L' ∧ slOk 2 g2 (dd segs size ll d n a).1.length (lcs (dd segs size ll d n a).1) ∧ e = .returned (.tuple #[slV g2 (dd segs size ll d n a).1.length, .int .i64 (dd segs size l d n a).2, .int .i64 (dd segs size ll d n a).2]) ∧ H' = o.seg 129 segs size A' L' :: slSeg 79 g2 (lcs (dd segs size ll d n a).1) :: H) := by
  refine FnS_intro (n := 84) (rs := [.tmp 8, .tmp 9, .tmp 10]) (vs := [ptr o.b, slV g ll.length, shV segs size, .agg [Value.int .u8 (d : Int), .int .u64 (n : Int), .int .i64 a].toArray]) Try.func33 rfl Try.ntmps33 rfl rfl ?_
  refine C_seq ?_
  refine C_region ?_
  refine L_op rfl (op_box rfl rfl rfl (fun B1 => ?_))
  refine L_op rfl (op_box rfl rfl rfl (fun B2 => ?_))
  refine L_y rfl (y_assign rfl) rfl ?_
  refine L_y rfl (y_assign rfl) rfl ?_
  refine L_y rfl (y_assign rfl) rfl ?_
  refine L_nil ?_
  refine C_seq ?_
  refine C_seq ?_
  refine C_region ?_
  refine L_y rfl (y_fieldAddr rfl fl_60_0) rfl ?_
  refine L_y rfl (y_load rfl ag_5 (sees 0 0 rfl) rfl) rfl ?_
  refine L_y rfl (y_rem rfl rfl (by decide) (show _ = ((d % 4 : Nat) : Int) from rfl)) rfl ?_
  refine L_nil ?_
  refine C_block ?_
  refine C_seq ?_
  refine C_region ?_
  refine L_y rfl (y_eqi rfl rfl) rfl ?_
  refine L_y rfl (y_assign rfl) rfl ?_
  refine L_nil ?_
  refine C_cond rfl (fun hc0 => ?_) (fun hc0 => absurd hc0 (by simp <;> omega))
  refine C_seq ?_
  refine C_region ?_
  refine L_y rfl (y_move rfl) rfl ?_
  refine L_y rfl (y_fieldAddr rfl fl_60_1) rfl ?_
  refine L_y rfl (y_load rfl ag_58 (sees 0 0 rfl) rfl) rfl ?_
  refine L_y rfl (y_fieldAddr rfl fl_60_2) rfl ?_
  refine L_y rfl (y_load rfl ag_3 (sees 0 0 rfl) rfl) rfl ?_
  refine L_op rfl (op_call rfl rfl (fun a w => Try.call42 a w) rfl ?_)
  refine (FnS.sub (hsub_pick [2] rfl) (xmove_s h n hn a (by omega))).mono ?_
  rintro _ _ ⟨rfl, A2, L2, h2, rfl⟩
  refine ⟨_, rfl, ?_⟩
  refine L_y rfl (y_assign rfl) rfl ?_
  refine L_nil ?_
  refine C_seq ?_
  refine C_region ?_
  refine L_y rfl (y_move rfl) rfl ?_
  refine L_y rfl (y_fieldAddr rfl fl_51_0) rfl ?_
  refine L_y rfl (y_load rfl ag_3 (sees 2 0 rfl) rfl) rfl ?_
  refine L_y rfl (y_fieldAddr rfl fl_51_1) rfl ?_
  refine L_y rfl (y_load rfl ag_3 (sees 2 0 rfl) rfl) rfl ?_
  refine L_y rfl (y_fieldAddr rfl fl_60_1) rfl ?_
  refine L_y rfl (y_load rfl ag_58 (sees 1 0 rfl) rfl) rfl ?_
  refine L_y rfl (y_fieldAddr rfl fl_60_2) rfl ?_
  refine L_y rfl (y_load rfl ag_3 (sees 1 0 rfl) rfl) rfl ?_
  refine L_op rfl (op_call rfl rfl (fun a w => Try.call77 a w) rfl ?_)
  refine (FnS.sub (hsub_pick [3] rfl) (put18_true hok hl2 segs size n a hll)).mono ?_
  rintro _ _ ⟨g2, hg2, rfl, rfl⟩
  refine ⟨_, rfl, ?_⟩
  refine L_y rfl (y_move rfl) rfl ?_
  refine L_y rfl (y_extract rfl rfl) rfl ?_
  refine L_y rfl (y_extract rfl rfl) rfl ?_
  refine L_y rfl (y_assign rfl) rfl ?_
  refine L_y rfl (y_assign rfl) rfl ?_
  refine L_nil ?_
  refine C_seq ?_
  refine C_region ?_
  refine L_y rfl (y_move rfl) rfl ?_
  refine L_y rfl (y_move rfl) rfl ?_
  refine L_y rfl (y_move rfl) rfl ?_
  refine L_y rfl (y_assign rfl) rfl ?_
  refine L_y rfl (y_assign rfl) rfl ?_
  refine L_y rfl (y_assign rfl) rfl ?_
  refine L_nil ?_
  refine C_ret ?_
  refine B_ret (rv_tmp rfl (rv_tmp rfl (rv_tmp rfl rv_nil))) ((hsub (.cons_cons _ (.cons_cons _ (.cons _ (.cons _ (.refl _)))))).trans (hsub_pick [1, 0] rfl)) ?_
  have e1 : dd segs size l d n a = xput segs size l n a true := by simp [dd, hk]
  have e2 : dd segs size ll d n a = xput segs size ll n a true := by simp [dd, hk]
  rw [e1, e2]
  exact ⟨_, _, g2, h2, hg2, rfl, rfl⟩

theorem done18_3 {w0 : World} {H : Hp} {o : Xo} {segs size : Int} {l ll : Xl} {A L : Gm} {g : Option SlG} (h : Xm segs size l A L) (hll : Xs ll) (hok : slOk 2 g ll.length (lcs ll)) (hl : l.length < 1000000) (hl2 : ll.length < 1000000) (d n : Nat) (hd : d < 256) (hn : n < 18446744073709551616) (a : Int) (hk : d % 4 = 3) : FnS Try.prog w0 33 #[ptr o.b, slV g ll.length, shV segs size, .agg [Value.int .u8 (d : Int), .int .u64 (n : Int), .int .i64 a].toArray] (o.seg 129 segs size A L :: slSeg 79 g (lcs ll) :: H) (fun e H' => ∃ A' L' g2, Xm segs size (dd segs size l d n a).1 A' L' ∧ slOk 2 g2 (dd segs size ll d n a).1.length (lcs (dd segs size ll d n a).1) ∧ e = .returned (.tuple #[slV g2 (dd segs size ll d n a).1.length, .int .i64 (dd segs size l d n a).2, .int .i64 (dd segs size ll d n a).2]) ∧ H' = o.seg 129 segs size A' L' :: slSeg 79 g2 (lcs (dd segs size ll d n a).1) :: H) := by
  refine FnS_intro (n := 84) (rs := [.tmp 8, .tmp 9, .tmp 10]) (vs := [ptr o.b, slV g ll.length, shV segs size, .agg [Value.int .u8 (d : Int), .int .u64 (n : Int), .int .i64 a].toArray]) Try.func33 rfl Try.ntmps33 rfl rfl ?_
  refine C_seq ?_
  refine C_region ?_
  refine L_op rfl (op_box rfl rfl rfl (fun B1 => ?_))
  refine L_op rfl (op_box rfl rfl rfl (fun B2 => ?_))
  refine L_y rfl (y_assign rfl) rfl ?_
  refine L_y rfl (y_assign rfl) rfl ?_
  refine L_y rfl (y_assign rfl) rfl ?_
  refine L_nil ?_
  refine C_seq ?_
  refine C_seq ?_
  refine C_region ?_
  refine L_y rfl (y_fieldAddr rfl fl_60_0) rfl ?_
  refine L_y rfl (y_load rfl ag_5 (sees 0 0 rfl) rfl) rfl ?_
  refine L_y rfl (y_rem rfl rfl (by decide) (show _ = ((d % 4 : Nat) : Int) from rfl)) rfl ?_
  refine L_nil ?_
  refine C_block ?_
  refine C_seq ?_
  refine C_region ?_
  refine L_y rfl (y_eqi rfl rfl) rfl ?_
  refine L_y rfl (y_assign rfl) rfl ?_
  refine L_nil ?_
  refine C_cond rfl (fun hc0 => absurd hc0 (by simp <;> omega)) (fun hc0 => ?_)
  refine C_seq ?_
  refine C_region ?_
  refine L_y rfl (y_eqi rfl rfl) rfl ?_
  refine L_y rfl (y_assign rfl) rfl ?_
  refine L_nil ?_
  refine C_cond rfl (fun hc1 => ?_) (fun hc1 => absurd hc1 (by simp <;> omega))
  refine C_seq ?_
  refine C_region ?_
  refine L_y rfl (y_move rfl) rfl ?_
  refine L_y rfl (y_fieldAddr rfl fl_60_1) rfl ?_
  refine L_y rfl (y_load rfl ag_58 (sees 0 0 rfl) rfl) rfl ?_
  refine L_op rfl (op_call rfl rfl (fun a w => Try.call41 a w) rfl ?_)
  refine (FnS.sub (hsub_pick [2] rfl) (xdrop_s h n (by omega))).mono ?_
  rintro _ _ ⟨rfl, A2, L2, h2, rfl⟩
  refine ⟨_, rfl, ?_⟩
  refine L_y rfl (y_assign rfl) rfl ?_
  refine L_nil ?_
  refine C_seq ?_
  refine C_region ?_
  refine L_y rfl (y_move rfl) rfl ?_
  refine L_y rfl (y_fieldAddr rfl fl_60_1) rfl ?_
  refine L_y rfl (y_load rfl ag_58 (sees 1 0 rfl) rfl) rfl ?_
  refine L_op rfl (op_call rfl rfl (fun a w => Try.call78 a w) rfl ?_)
  refine (FnS.sub (hsub_pick [3] rfl) (drop18_s hok hl2 n hll)).mono ?_
  rintro _ _ ⟨g2, hg2, rfl, rfl⟩
  refine ⟨_, rfl, ?_⟩
  refine L_y rfl (y_move rfl) rfl ?_
  refine L_y rfl (y_extract rfl rfl) rfl ?_
  refine L_y rfl (y_extract rfl rfl) rfl ?_
  refine L_y rfl (y_assign rfl) rfl ?_
  refine L_y rfl (y_assign rfl) rfl ?_
  refine L_nil ?_
  refine C_seq ?_
  refine C_region ?_
  refine L_y rfl (y_move rfl) rfl ?_
  refine L_y rfl (y_move rfl) rfl ?_
  refine L_y rfl (y_move rfl) rfl ?_
  refine L_y rfl (y_assign rfl) rfl ?_
  refine L_y rfl (y_assign rfl) rfl ?_
  refine L_y rfl (y_assign rfl) rfl ?_
  refine L_nil ?_
  refine C_ret ?_
  refine B_ret (rv_tmp rfl (rv_tmp rfl (rv_tmp rfl rv_nil))) ((hsub (.cons_cons _ (.cons_cons _ (.cons _ (.cons _ (.refl _)))))).trans (hsub_pick [1, 0] rfl)) ?_
  have e1 : dd segs size l d n a = xdrop l n := by simp [dd, hk]
  have e2 : dd segs size ll d n a = xdrop ll n := by simp [dd, hk]
  rw [e1, e2]
  exact ⟨_, _, g2, h2, hg2, rfl, rfl⟩

theorem done18_0 {w0 : World} {H : Hp} {o : Xo} {segs size : Int} {l ll : Xl} {A L : Gm} {g : Option SlG} (h : Xm segs size l A L) (hll : Xs ll) (hok : slOk 2 g ll.length (lcs ll)) (hl : l.length < 1000000) (hl2 : ll.length < 1000000) (d n : Nat) (hd : d < 256) (hn : n < 18446744073709551616) (a : Int) (hk : ¬ d % 4 = 2 ∧ ¬ d % 4 = 3) : FnS Try.prog w0 33 #[ptr o.b, slV g ll.length, shV segs size, .agg [Value.int .u8 (d : Int), .int .u64 (n : Int), .int .i64 a].toArray] (o.seg 129 segs size A L :: slSeg 79 g (lcs ll) :: H) (fun e H' => ∃ A' L' g2, Xm segs size (dd segs size l d n a).1 A' L' ∧ slOk 2 g2 (dd segs size ll d n a).1.length (lcs (dd segs size ll d n a).1) ∧ e = .returned (.tuple #[slV g2 (dd segs size ll d n a).1.length, .int .i64 (dd segs size l d n a).2, .int .i64 (dd segs size ll d n a).2]) ∧ H' = o.seg 129 segs size A' L' :: slSeg 79 g2 (lcs (dd segs size ll d n a).1) :: H) := by
  refine FnS_intro (n := 84) (rs := [.tmp 8, .tmp 9, .tmp 10]) (vs := [ptr o.b, slV g ll.length, shV segs size, .agg [Value.int .u8 (d : Int), .int .u64 (n : Int), .int .i64 a].toArray]) Try.func33 rfl Try.ntmps33 rfl rfl ?_
  refine C_seq ?_
  refine C_region ?_
  refine L_op rfl (op_box rfl rfl rfl (fun B1 => ?_))
  refine L_op rfl (op_box rfl rfl rfl (fun B2 => ?_))
  refine L_y rfl (y_assign rfl) rfl ?_
  refine L_y rfl (y_assign rfl) rfl ?_
  refine L_y rfl (y_assign rfl) rfl ?_
  refine L_nil ?_
  refine C_seq ?_
  refine C_seq ?_
  refine C_region ?_
  refine L_y rfl (y_fieldAddr rfl fl_60_0) rfl ?_
  refine L_y rfl (y_load rfl ag_5 (sees 0 0 rfl) rfl) rfl ?_
  refine L_y rfl (y_rem rfl rfl (by decide) (show _ = ((d % 4 : Nat) : Int) from rfl)) rfl ?_
  refine L_nil ?_
  refine C_block ?_
  refine C_seq ?_
  refine C_region ?_
  refine L_y rfl (y_eqi rfl rfl) rfl ?_
  refine L_y rfl (y_assign rfl) rfl ?_
  refine L_nil ?_
  refine C_cond rfl (fun hc0 => absurd hc0 (by simp <;> omega)) (fun hc0 => ?_)
  refine C_seq ?_
  refine C_region ?_
  refine L_y rfl (y_eqi rfl rfl) rfl ?_
  refine L_y rfl (y_assign rfl) rfl ?_
  refine L_nil ?_
  refine C_cond rfl (fun hc1 => absurd hc1 (by simp <;> omega)) (fun hc1 => ?_)
  refine C_skip ?_
  refine C_seq ?_
  refine C_region ?_
  refine L_y rfl (y_move rfl) rfl ?_
  refine L_y rfl (y_fieldAddr rfl fl_60_1) rfl ?_
  refine L_y rfl (y_load rfl ag_58 (sees 0 0 rfl) rfl) rfl ?_
  refine L_y rfl (y_fieldAddr rfl fl_60_2) rfl ?_
  refine L_y rfl (y_load rfl ag_3 (sees 0 0 rfl) rfl) rfl ?_
  refine L_op rfl (op_call rfl rfl (fun a w => Try.call29 a w) rfl ?_)
  refine (FnS.sub (hsub_pick [2] rfl) (xput_s h n hn a (by omega))).mono ?_
  rintro _ _ ⟨rfl, A2, L2, h2, rfl⟩
  refine ⟨_, rfl, ?_⟩
  refine L_y rfl (y_assign rfl) rfl ?_
  refine L_nil ?_
  refine C_seq ?_
  refine C_region ?_
  refine L_y rfl (y_move rfl) rfl ?_
  refine L_y rfl (y_fieldAddr rfl fl_51_0) rfl ?_
  refine L_y rfl (y_load rfl ag_3 (sees 2 0 rfl) rfl) rfl ?_
  refine L_y rfl (y_fieldAddr rfl fl_51_1) rfl ?_
  refine L_y rfl (y_load rfl ag_3 (sees 2 0 rfl) rfl) rfl ?_
  refine L_y rfl (y_fieldAddr rfl fl_60_1) rfl ?_
  refine L_y rfl (y_load rfl ag_58 (sees 1 0 rfl) rfl) rfl ?_
  refine L_y rfl (y_fieldAddr rfl fl_60_2) rfl ?_
  refine L_y rfl (y_load rfl ag_3 (sees 1 0 rfl) rfl) rfl ?_
  refine L_op rfl (op_call rfl rfl (fun a w => Try.call77 a w) rfl ?_)
  refine (FnS.sub (hsub_pick [3] rfl) (put18_false hok hl2 segs size n a hll)).mono ?_
  rintro _ _ ⟨g2, hg2, rfl, rfl⟩
  refine ⟨_, rfl, ?_⟩
  refine L_y rfl (y_move rfl) rfl ?_
  refine L_y rfl (y_extract rfl rfl) rfl ?_
  refine L_y rfl (y_extract rfl rfl) rfl ?_
  refine L_y rfl (y_assign rfl) rfl ?_
  refine L_y rfl (y_assign rfl) rfl ?_
  refine L_nil ?_
  refine C_seq ?_
  refine C_region ?_
  refine L_y rfl (y_move rfl) rfl ?_
  refine L_y rfl (y_move rfl) rfl ?_
  refine L_y rfl (y_move rfl) rfl ?_
  refine L_y rfl (y_assign rfl) rfl ?_
  refine L_y rfl (y_assign rfl) rfl ?_
  refine L_y rfl (y_assign rfl) rfl ?_
  refine L_nil ?_
  refine C_ret ?_
  refine B_ret (rv_tmp rfl (rv_tmp rfl (rv_tmp rfl rv_nil))) ((hsub (.cons_cons _ (.cons_cons _ (.cons _ (.cons _ (.refl _)))))).trans (hsub_pick [1, 0] rfl)) ?_
  have e1 : dd segs size l d n a = xput segs size l n a false := by simp [dd, hk]
  have e2 : dd segs size ll d n a = xput segs size ll n a false := by simp [dd, hk]
  rw [e1, e2]
  exact ⟨_, _, g2, h2, hg2, rfl, rfl⟩

theorem done18_s {w0 : World} {H : Hp} {o : Xo} {segs size : Int} {l ll : Xl} {A L : Gm} {g : Option SlG} (h : Xm segs size l A L) (hll : Xs ll) (hok : slOk 2 g ll.length (lcs ll)) (hl : l.length < 1000000) (hl2 : ll.length < 1000000) (d n : Nat) (hd : d < 256) (hn : n < 18446744073709551616) (a : Int) : FnS Try.prog w0 33 #[ptr o.b, slV g ll.length, shV segs size, .agg [Value.int .u8 (d : Int), .int .u64 (n : Int), .int .i64 a].toArray] (o.seg 129 segs size A L :: slSeg 79 g (lcs ll) :: H) (fun e H' => ∃ A' L' g2, Xm segs size (dd segs size l d n a).1 A' L' ∧ slOk 2 g2 (dd segs size ll d n a).1.length (lcs (dd segs size ll d n a).1) ∧ e = .returned (.tuple #[slV g2 (dd segs size ll d n a).1.length, .int .i64 (dd segs size l d n a).2, .int .i64 (dd segs size ll d n a).2]) ∧ H' = o.seg 129 segs size A' L' :: slSeg 79 g2 (lcs (dd segs size ll d n a).1) :: H) := by
  by_cases h2 : d % 4 = 2
  · exact done18_2 h hll hok hl hl2 d n hd hn a h2
  · by_cases h3 : d % 4 = 3
    · exact done18_3 h hll hok hl hl2 d n hd hn a h3
    · exact done18_0 h hll hok hl hl2 d n hd hn a ⟨h2, h3⟩

end Go.Proofs.Ytaeooiogjhkjfaa

/- Facts of the translation's types, for the kernel (own work, by a program of this repo). -/
namespace Go.Proofs.Ytaeooiogjhkjfaa
open Go.Sl
theorem us_3 : (Try.prog.underlying 3).isSome = true := by kernel_rfl
theorem us_5 : (Try.prog.underlying 5).isSome = true := by kernel_rfl
theorem us_58 : (Try.prog.underlying 58).isSome = true := by kernel_rfl
end Go.Proofs.Ytaeooiogjhkjfaa

/- walks (own work; the walks' lines by a program of this repo). -/
set_option linter.unusedVariables false
set_option linter.unusedSimpArgs false
set_option maxRecDepth 20000
namespace Go.Proofs.Ytaeooiogjhkjfaa
open Go.Sl
attribute [local irreducible] BodyQ WpC WpL WpS WpH OpW FnS


theorem isnan_u {w0 : World} {H : Hp} (x : Int) : FnS Try.prog w0 118 #[.int .u64 x] H (fun e H' => e = .returned (.bool false) ∧ H' = H) := by
  refine FnS_intro (n := 6) (rs := [.tmp 2]) (vs := [.int .u64 x]) Try.func118 rfl Try.ntmps118 rfl rfl ?_
  refine C_seq ?_
  refine C_region ?_
  refine L_y rfl (y_assign rfl) rfl ?_
  refine L_nil ?_
  refine C_seq ?_
  refine C_region ?_
  refine L_y rfl (y_move rfl) rfl ?_
  refine L_y rfl (y_move rfl) rfl ?_
  refine L_y rfl (y_nei rfl rfl) rfl ?_
  refine L_y rfl (y_assign rfl) rfl ?_
  refine L_nil ?_
  refine C_ret ?_
  refine B_ret (rv_tmp rfl rv_nil) (HSub.refl _) ?_
  refine ⟨congrArg (fun b => Ending.returned (.bool b)) ?_, rfl⟩
  simp

theorem less_u {w0 : World} {H : Hp} (x y : Nat) : FnS Try.prog w0 108 #[.int .u64 (x : Int), .int .u64 (y : Int)] H (fun e H' => e = .returned (.bool (ltN x y)) ∧ H' = H) := by
  refine FnS_intro (n := 17) (rs := [.tmp 4]) (vs := [.int .u64 (x : Int), .int .u64 (y : Int)]) Try.func108 rfl Try.ntmps108 rfl rfl ?_
  refine C_seq ?_
  refine C_region ?_
  refine L_y rfl (y_assign rfl) rfl ?_
  refine L_nil ?_
  refine C_seq ?_
  refine C_region ?_
  refine L_y rfl (y_move rfl) rfl ?_
  refine L_op rfl (op_call rfl rfl (fun a w => Try.call118 a w) rfl ?_)
  refine (isnan_u _).mono ?_
  rintro _ _ ⟨rfl, e⟩
  obtain rfl := e.symm
  clear e
  refine ⟨_, rfl, ?_⟩
  refine L_y rfl (y_move rfl) rfl ?_
  refine L_skip rfl rfl ?_
  refine L_skip rfl rfl ?_
  refine L_skip rfl rfl ?_
  refine L_y rfl (y_pick_f rfl rfl) rfl ?_
  refine L_y rfl (y_move rfl) rfl ?_
  refine L_y rfl (y_move rfl) rfl ?_
  refine L_y rfl (y_move rfl) rfl ?_
  refine L_y rfl (y_lss rfl rfl) rfl ?_
  refine L_y rfl (y_pick_f rfl rfl) rfl ?_
  refine L_y rfl (y_assign rfl) rfl ?_
  refine L_nil ?_
  refine C_ret ?_
  refine B_ret (rv_tmp rfl rv_nil) (HSub.refl _) ?_
  refine ⟨congrArg (fun b => Ending.returned (.bool b)) ?_, rfl⟩
  simp [ltN]

theorem insert_u {w0 : World} {H : Hp} {sb n cap : Nat} {sp : List Value} (d : Array Nat) (hd : d.size = n) (hn : n < 4611686018427387904) (a b : Nat) (hab : a ≤ b) (hb : b ≤ n) : FnS Try.prog w0 102 #[(.slice (some ⟨sb, 0, none⟩) n cap), .int .i64 (a : Int), .int .i64 (b : Int)] (useg 58 sb d sp :: H) (fun e H' => e = .returned (.tuple #[]) ∧ H' = useg 58 sb (Go.Sort.insertionSort ltN d a b) sp :: H) := by
  refine FnS_intro (n := 49) (rs := []) (vs := [(.slice (some ⟨sb, 0, none⟩) n cap), .int .i64 (a : Int), .int .i64 (b : Int)]) Try.func102 rfl Try.ntmps102 rfl rfl ?_
  refine C_seq ?_
  refine C_region ?_
  refine L_y rfl (y_move rfl) rfl ?_
  refine L_y rfl (y_add rfl rfl (show _ = ((a + 1 : Nat) : Int) from by rw [wi64 (by omega) (by omega)]; omega)) rfl ?_
  refine L_y rfl (y_assign rfl) rfl ?_
  refine L_nil ?_
  refine C_block ?_
  refine C_loop (ι := Array Nat × Nat) (fun i => [(0, (.slice (some ⟨sb, 0, none⟩) n cap)), (1, .int .i64 (a : Int)), (2, .int .i64 (b : Int)), (6, .int .i64 (i.2 : Int))]) (fun i => useg 58 sb i.1 sp :: H) (fun i => i.1.size = n ∧ a < i.2 ∧ i.2 ≤ n + 1 ∧ Go.Sort.insOuter ltN a b i.2 i.1 = Go.Sort.insertionSort ltN d a b) (fun i => b - i.2) (d, a + 1) ⟨hd, Nat.lt_succ_self _, by simp only; omega, rfl⟩ ⟨rfl, rfl, rfl, rfl, trivial⟩ ((hsub (.cons_cons _ (.refl _))).trans (hsub_pick [0] rfl)) (fun i hi => ?_)
  obtain ⟨d1, i⟩ := i
  obtain ⟨hs1, hai, hin, hr1⟩ := hi
  try simp only at hs1 hai hin hr1
  try dsimp only
  refine C_seq ?_
  refine C_seq ?_
  refine C_region ?_
  refine L_y rfl (y_move rfl) rfl ?_
  refine L_y rfl (y_move rfl) rfl ?_
  refine L_y rfl (y_lss rfl rfl) rfl ?_
  refine L_nil ?_
  refine C_cond rfl (fun hc0 => ?_) (fun hc0 => ?_)
  · replace hc0 : i < b := by have := of_decide_eq_true hc0; omega
    refine C_skip ?_
    refine C_seq ?_
    refine C_block ?_
    refine C_seq ?_
    refine C_region ?_
    refine L_y rfl (y_move rfl) rfl ?_
    refine L_y rfl (y_assign rfl) rfl ?_
    refine L_nil ?_
    refine C_block ?_
    refine C_loop (ι := Array Nat × Nat) (fun j => [(0, (.slice (some ⟨sb, 0, none⟩) n cap)), (1, .int .i64 (a : Int)), (2, .int .i64 (b : Int)), (6, .int .i64 (i : Int)), (7, .int .i64 (j.2 : Int))]) (fun j => useg 58 sb j.1 sp :: H) (fun j => j.1.size = n ∧ a ≤ j.2 ∧ j.2 ≤ i ∧ Go.Sort.insInner ltN a j.2 j.1 = Go.Sort.insInner ltN a i d1) (fun j => j.2) (d1, i) ⟨hs1, by simp only; omega, Nat.le_refl _, rfl⟩ ⟨rfl, rfl, rfl, rfl, rfl, trivial⟩ ((hsub (.cons_cons _ (.refl _))).trans (hsub_pick [0] rfl)) (fun j hj => ?_)
    obtain ⟨d2, j⟩ := j
    obtain ⟨hs2, haj, hji, hr2⟩ := hj
    try simp only at hs2 haj hji hr2
    try dsimp only
    refine C_seq ?_
    refine C_seq ?_
    refine C_regionH0 (by kernel_rfl) ?_
    refine H_y 0 rfl (by kernel_rfl) (by kernel_rfl) (by kernel_rfl) (HSub.refl _) rfl (y_move rfl) rfl ?_
    refine H_y 1 rfl (by kernel_rfl) (by kernel_rfl) (by kernel_rfl) (HSub.refl _) rfl (y_move rfl) rfl ?_
    refine H_y 2 rfl (by kernel_rfl) (by kernel_rfl) (by kernel_rfl) (HSub.refl _) rfl (y_gtr rfl rfl) rfl ?_
    refine H_y 3 rfl (by kernel_rfl) (by kernel_rfl) (by kernel_rfl) (HSub.refl _) rfl (y_move rfl) rfl ?_
    refine H_case 19 rfl (fun hg4_4 => ?_) (fun hg4_4 => ?_)
    · have hja : a < j := by have := of_decide_eq_true hg4_4; omega
      refine H_y 4 rfl (by kernel_rfl) (by kernel_rfl) (by kernel_rfl) (HSub.refl _) rfl (y_move rfl) rfl ?_
      refine H_y 5 rfl (by kernel_rfl) (by kernel_rfl) (by kernel_rfl) (HSub.refl _) rfl (y_move rfl) rfl ?_
      refine H_y 6 rfl (by kernel_rfl) (by kernel_rfl) (by kernel_rfl) (HSub.refl _) rfl (y_indexS rfl rfl Try.underlying63 sz_58 (by omega) (by omega) (show _ = j from by simp)) rfl ?_
      refine H_y 7 rfl (by kernel_rfl) (by kernel_rfl) (by kernel_rfl) (HSub.refl _) rfl (y_load rfl ag_58 (sees 0 0 rfl) (us_at (by omega))) rfl ?_
      refine H_y 8 rfl (by kernel_rfl) (by kernel_rfl) (by kernel_rfl) (HSub.refl _) rfl (y_move rfl) rfl ?_
      refine H_y 9 rfl (by kernel_rfl) (by kernel_rfl) (by kernel_rfl) (HSub.refl _) rfl (y_move rfl) rfl ?_
      refine H_y 10 rfl (by kernel_rfl) (by kernel_rfl) (by kernel_rfl) (HSub.refl _) rfl (y_sub rfl rfl (show _ = ((j - 1 : Nat) : Int) from by rw [wi64 (by omega) (by omega)]; omega)) rfl ?_
      refine H_y 11 rfl (by kernel_rfl) (by kernel_rfl) (by kernel_rfl) (HSub.refl _) rfl (y_indexS rfl rfl Try.underlying63 sz_58 (by omega) (by omega) (show _ = j - 1 from by simp)) rfl ?_
      refine H_y 12 rfl (by kernel_rfl) (by kernel_rfl) (by kernel_rfl) (HSub.refl _) rfl (y_load rfl ag_58 (sees 0 0 rfl) (us_at (by omega))) rfl ?_
      refine H_one 13 rfl (by kernel_rfl) rfl (op_call rfl rfl (fun a w => Try.call108 a w) rfl ?_)
      refine (less_u (d2[j]!) (d2[j - 1]!)).mono ?_
      rintro _ _ ⟨rfl, e⟩
      obtain rfl := e.symm
      clear e
      refine ⟨_, rfl, ?_⟩
      refine ⟨HSub.refl _, ?_⟩
      refine H_y 14 rfl (by kernel_rfl) (by kernel_rfl) (by kernel_rfl) (HSub.refl _) rfl (y_pick_t rfl rfl) rfl ?_
      refine H_done (by kernel_rfl) ?_
      refine C_cond rfl (fun hc1 => ?_) (fun hc1 => ?_)
      · have hlt : ltN d2[j]! d2[j - 1]! = true := hc1
        refine C_skip ?_
        refine C_seq ?_
        refine C_block ?_
        refine C_regionH H (by kernel_rfl) ?_
        refine H_y 0 rfl (by kernel_rfl) (by kernel_rfl) (by kernel_rfl) ((hsub (.cons _ (.refl _)))) rfl (y_move rfl) rfl ?_
        refine H_y 1 rfl (by kernel_rfl) (by kernel_rfl) (by kernel_rfl) ((hsub (.cons _ (.refl _)))) rfl (y_move rfl) rfl ?_
        refine H_y 2 rfl (by kernel_rfl) (by kernel_rfl) (by kernel_rfl) ((hsub (.cons _ (.refl _)))) rfl (y_move rfl) rfl ?_
        refine H_y 3 rfl (by kernel_rfl) (by kernel_rfl) (by kernel_rfl) ((hsub (.cons _ (.refl _)))) rfl (y_move rfl) rfl ?_
        refine H_y 4 rfl (by kernel_rfl) (by kernel_rfl) (by kernel_rfl) ((hsub (.cons _ (.refl _)))) rfl (y_sub rfl rfl (show _ = ((j - 1 : Nat) : Int) from by rw [wi64 (by omega) (by omega)]; omega)) rfl ?_
        refine H_y 5 rfl (by kernel_rfl) (by kernel_rfl) (by kernel_rfl) ((hsub (.cons _ (.refl _)))) rfl (y_move rfl) rfl ?_
        refine H_y 6 rfl (by kernel_rfl) (by kernel_rfl) (by kernel_rfl) ((hsub (.cons _ (.refl _)))) rfl (y_move rfl) rfl ?_
        refine H_y 7 rfl (by kernel_rfl) (by kernel_rfl) (by kernel_rfl) ((hsub (.cons _ (.refl _)))) rfl (y_sub rfl rfl (show _ = ((j - 1 : Nat) : Int) from by rw [wi64 (by omega) (by omega)]; omega)) rfl ?_
        refine H_y 8 rfl (by kernel_rfl) (by kernel_rfl) (by kernel_rfl) ((hsub (.cons _ (.refl _)))) rfl (y_indexS rfl rfl Try.underlying63 sz_58 (by omega) (by omega) (show _ = j - 1 from by simp)) rfl ?_
        refine H_y 10 rfl (by kernel_rfl) (by kernel_rfl) (by kernel_rfl) ((hsub (.cons _ (.refl _)))) rfl (y_move rfl) rfl ?_
        refine H_y 11 rfl (by kernel_rfl) (by kernel_rfl) (by kernel_rfl) ((hsub (.cons _ (.refl _)))) rfl (y_move rfl) rfl ?_
        refine H_y 12 rfl (by kernel_rfl) (by kernel_rfl) (by kernel_rfl) ((hsub (.cons _ (.refl _)))) rfl (y_indexS rfl rfl Try.underlying63 sz_58 (by omega) (by omega) (show _ = j from by simp)) rfl ?_
        refine H_two 9 13 rfl rfl (by kernel_rfl) rfl rfl ?_ ?_
        · refine op_y (y_load rfl ag_58 (sees 0 0 rfl) (us_at (by omega))) rfl ?_
          refine ⟨(hsub (.cons _ (.refl _))), ?_⟩
          refine H_one 13 rfl (by kernel_rfl) rfl (op_y (y_load rfl ag_58 (sees 0 0 rfl) (us_at (by omega))) rfl ?_)
          refine ⟨(hsub (.cons _ (.refl _))), ?_⟩
          refine H_y 14 rfl (by kernel_rfl) (by kernel_rfl) (by kernel_rfl) ((hsub (.cons _ (.refl _)))) rfl (y_indexS rfl rfl Try.underlying63 sz_58 (by omega) (by omega) (show _ = j from by simp)) rfl ?_
          refine H_one 15 rfl (by kernel_rfl) rfl (op_store1 0 0 rfl rfl rfl sz_58 rfl (us_lt (by omega)) ?_)
          refine ⟨(hsub (.cons _ (.refl _))), ?_⟩
          refine H_y 16 rfl (by kernel_rfl) (by kernel_rfl) (by kernel_rfl) ((hsub (.cons _ (.refl _)))) rfl (y_indexS rfl rfl Try.underlying63 sz_58 (by omega) (by omega) (show _ = j - 1 from by simp)) rfl ?_
          refine H_one 17 rfl (by kernel_rfl) rfl (op_store1 0 0 rfl rfl rfl sz_58 rfl (by rw [List.length_set]; exact us_lt (by omega)) ?_)
          refine ⟨(hsub (.cons _ (.refl _))), ?_⟩
          refine H_done (by kernel_rfl) ?_
          rw [us_swp (by omega) (by omega)]
          refine C_region ?_
          refine L_y rfl (y_move rfl) rfl ?_
          refine L_y rfl (y_sub rfl rfl (show _ = ((j - 1 : Nat) : Int) from by rw [wi64 (by omega) (by omega)]; omega)) rfl ?_
          refine L_y rfl (y_assign rfl) rfl ?_
          refine L_nil ?_
          refine ⟨(Go.Sort.swp d2 j (j - 1), j - 1), ⟨by simp only; rw [swp_size]; exact hs2, by simp only; omega, by simp only; omega, by simp only; rw [← hr2, ins_step hja hlt]⟩, by simp only; omega, ⟨rfl, rfl, rfl, rfl, rfl, trivial⟩, ((hsub (.cons_cons _ (.refl _))).trans (hsub_pick [0] rfl))⟩
        · refine op_y (y_load rfl ag_58 (sees 0 0 rfl) (us_at (by omega))) rfl ?_
          refine ⟨(hsub (.cons _ (.refl _))), ?_⟩
          refine H_one 9 rfl (by kernel_rfl) rfl (op_y (y_load rfl ag_58 (sees 0 0 rfl) (us_at (by omega))) rfl ?_)
          refine ⟨(hsub (.cons _ (.refl _))), ?_⟩
          refine H_y 14 rfl (by kernel_rfl) (by kernel_rfl) (by kernel_rfl) ((hsub (.cons _ (.refl _)))) rfl (y_indexS rfl rfl Try.underlying63 sz_58 (by omega) (by omega) (show _ = j from by simp)) rfl ?_
          refine H_one 15 rfl (by kernel_rfl) rfl (op_store1 0 0 rfl rfl rfl sz_58 rfl (us_lt (by omega)) ?_)
          refine ⟨(hsub (.cons _ (.refl _))), ?_⟩
          refine H_y 16 rfl (by kernel_rfl) (by kernel_rfl) (by kernel_rfl) ((hsub (.cons _ (.refl _)))) rfl (y_indexS rfl rfl Try.underlying63 sz_58 (by omega) (by omega) (show _ = j - 1 from by simp)) rfl ?_
          refine H_one 17 rfl (by kernel_rfl) rfl (op_store1 0 0 rfl rfl rfl sz_58 rfl (by rw [List.length_set]; exact us_lt (by omega)) ?_)
          refine ⟨(hsub (.cons _ (.refl _))), ?_⟩
          refine H_done (by kernel_rfl) ?_
          rw [us_swp (by omega) (by omega)]
          refine C_region ?_
          refine L_y rfl (y_move rfl) rfl ?_
          refine L_y rfl (y_sub rfl rfl (show _ = ((j - 1 : Nat) : Int) from by rw [wi64 (by omega) (by omega)]; omega)) rfl ?_
          refine L_y rfl (y_assign rfl) rfl ?_
          refine L_nil ?_
          refine ⟨(Go.Sort.swp d2 j (j - 1), j - 1), ⟨by simp only; rw [swp_size]; exact hs2, by simp only; omega, by simp only; omega, by simp only; rw [← hr2, ins_step hja hlt]⟩, by simp only; omega, ⟨rfl, rfl, rfl, rfl, rfl, trivial⟩, ((hsub (.cons_cons _ (.refl _))).trans (hsub_pick [0] rfl))⟩
      · have hfin : Go.Sort.insInner ltN a i d1 = d2 := by rw [← hr2]; exact ins_stop (.inr hc1)
        refine C_exit ?_
        refine C_region ?_
        refine L_y rfl (y_move rfl) rfl ?_
        refine L_y rfl (y_add rfl rfl (show _ = ((i + 1 : Nat) : Int) from by rw [wi64 (by omega) (by omega)]; omega)) rfl ?_
        refine L_y rfl (y_assign rfl) rfl ?_
        refine L_nil ?_
        exact ⟨(d2, i + 1), ⟨hs2, by simp only; omega, by simp only; omega, by rw [← hr1, ins_next hc0, hfin]⟩, by simp only; omega, ⟨rfl, rfl, rfl, rfl, trivial⟩, ((hsub (.cons_cons _ (.refl _))).trans (hsub_pick [0] rfl))⟩
    · have hja : ¬ a < j := by have := of_decide_eq_false hg4_4; omega
      have hfin : Go.Sort.insInner ltN a i d1 = d2 := by rw [← hr2]; exact ins_stop (.inl hja)
      refine H_skip 4 rfl (by kernel_rfl) (by kernel_rfl) (by kernel_rfl) (HSub.refl _) rfl rfl ?_
      refine H_skip 5 rfl (by kernel_rfl) (by kernel_rfl) (by kernel_rfl) (HSub.refl _) rfl rfl ?_
      refine H_skip 6 rfl (by kernel_rfl) (by kernel_rfl) (by kernel_rfl) (HSub.refl _) rfl rfl ?_
      refine H_skip 7 rfl (by kernel_rfl) (by kernel_rfl) (by kernel_rfl) (HSub.refl _) rfl rfl ?_
      refine H_skip 8 rfl (by kernel_rfl) (by kernel_rfl) (by kernel_rfl) (HSub.refl _) rfl rfl ?_
      refine H_skip 9 rfl (by kernel_rfl) (by kernel_rfl) (by kernel_rfl) (HSub.refl _) rfl rfl ?_
      refine H_skip 10 rfl (by kernel_rfl) (by kernel_rfl) (by kernel_rfl) (HSub.refl _) rfl rfl ?_
      refine H_skip 11 rfl (by kernel_rfl) (by kernel_rfl) (by kernel_rfl) (HSub.refl _) rfl rfl ?_
      refine H_skip 12 rfl (by kernel_rfl) (by kernel_rfl) (by kernel_rfl) (HSub.refl _) rfl rfl ?_
      refine H_skip 13 rfl (by kernel_rfl) (by kernel_rfl) (by kernel_rfl) (HSub.refl _) rfl rfl ?_
      refine H_y 14 rfl (by kernel_rfl) (by kernel_rfl) (by kernel_rfl) (HSub.refl _) rfl (y_pick_f rfl rfl) rfl ?_
      refine H_done (by kernel_rfl) ?_
      refine C_cond_f rfl ?_
      refine C_exit ?_
      refine C_region ?_
      refine L_y rfl (y_move rfl) rfl ?_
      refine L_y rfl (y_add rfl rfl (show _ = ((i + 1 : Nat) : Int) from by rw [wi64 (by omega) (by omega)]; omega)) rfl ?_
      refine L_y rfl (y_assign rfl) rfl ?_
      refine L_nil ?_
      exact ⟨(d2, i + 1), ⟨hs2, by simp only; omega, by simp only; omega, by rw [← hr1, ins_next hc0, hfin]⟩, by simp only; omega, ⟨rfl, rfl, rfl, rfl, trivial⟩, ((hsub (.cons_cons _ (.refl _))).trans (hsub_pick [0] rfl))⟩
  · replace hc0 : ¬ i < b := by have := of_decide_eq_false hc0; omega
    refine C_exit ?_
    refine B_end rv_nil ((hsub (.cons_cons _ (.refl _))).trans (hsub_pick [0] rfl)) ?_
    refine ⟨rfl, ?_⟩
    rw [← hr1, ins_over hc0]
    rfl

end Go.Proofs.Ytaeooiogjhkjfaa

/- walks (own work; the walks' lines by a program of this repo). -/
set_option linter.unusedVariables false
set_option linter.unusedSimpArgs false
set_option maxRecDepth 20000
namespace Go.Proofs.Ytaeooiogjhkjfaa
open Go.Sl
attribute [local irreducible] BodyQ WpC WpL WpS WpH OpW FnS


theorem len64_1 {w0 : World} {H : Hp} (x : Nat) (hx : x < 256) : FnS Try.prog w0 112 #[.int .u64 (x : Int)] H (fun e H' => e = .returned (.int .i64 (Go.Sort.bitsLen x : Int)) ∧ H' = H) := by
  have hb := bits_small hx
  refine FnS_intro (n := 25) (rs := [.tmp 2]) (vs := [.int .u64 (x : Int)]) Try.func112 rfl Try.ntmps112 rfl rfl ?_
  refine C_seq ?_
  refine C_region ?_
  refine L_y rfl (y_assign rfl) rfl ?_
  refine L_nil ?_
  refine C_seq ?_
  refine C_seq ?_
  refine C_region ?_
  refine L_y rfl (y_move rfl) rfl ?_
  refine L_y rfl (y_geq rfl rfl) rfl ?_
  refine L_nil ?_
  refine C_cond rfl (fun hc0 => absurd hc0 (by simp <;> omega)) (fun hc0 => ?_)
  refine C_skip ?_
  refine C_seq ?_
  refine C_seq ?_
  refine C_region ?_
  refine L_y rfl (y_move rfl) rfl ?_
  refine L_y rfl (y_geq rfl rfl) rfl ?_
  refine L_nil ?_
  refine C_cond rfl (fun hc1 => absurd hc1 (by simp <;> omega)) (fun hc1 => ?_)
  refine C_skip ?_
  refine C_seq ?_
  refine C_seq ?_
  refine C_region ?_
  refine L_y rfl (y_move rfl) rfl ?_
  refine L_y rfl (y_geq rfl rfl) rfl ?_
  refine L_nil ?_
  refine C_cond rfl (fun hc2 => absurd hc2 (by simp <;> omega)) (fun hc2 => ?_)
  refine C_skip ?_
  refine C_seq ?_
  refine C_region ?_
  refine L_y rfl (y_move rfl) rfl ?_
  refine L_y rfl (y_move rfl) rfl ?_
  refine L_y rfl (y_conv rfl us_58 Try.underlying5 (show _ = ((x : Nat) : Int) from by rw [wu8 (by omega) (by omega)])) rfl ?_
  refine L_y rfl (y_indexStr (show _ = some (Value.string len8) from by kernel_rfl) rfl Try.underlying9 (by omega) (len8_at (i := x) (by omega))) rfl ?_
  refine L_y rfl (y_conv rfl us_5 Try.underlying3 (show _ = ((Go.Sort.bitsLen x : Nat) : Int) from by rw [show (UInt8.ofNat (Go.Sort.bitsLen x)).toNat = Go.Sort.bitsLen x from by rw [UInt8.toNat_ofNat']; omega]; exact wi64 (by omega) (by omega))) rfl ?_
  refine L_y rfl (y_add rfl rfl (show _ = ((Go.Sort.bitsLen x : Nat) : Int) from by rw [wi64 (by omega) (by omega)]; omega)) rfl ?_
  refine L_y rfl (y_assign rfl) rfl ?_
  refine L_nil ?_
  refine C_ret ?_
  refine B_ret (rv_tmp rfl rv_nil) (HSub.refl _) ?_
  exact ⟨rfl, rfl⟩

theorem len64_2 {w0 : World} {H : Hp} (x : Nat) (hx : x < 65536) (hx2 : 256 ≤ x) : FnS Try.prog w0 112 #[.int .u64 (x : Int)] H (fun e H' => e = .returned (.int .i64 (Go.Sort.bitsLen x : Int)) ∧ H' = H) := by
  have hb := bits_small (show x / 256 < 256 by omega)
  have hs := bits_shift hx2
  refine FnS_intro (n := 25) (rs := [.tmp 2]) (vs := [.int .u64 (x : Int)]) Try.func112 rfl Try.ntmps112 rfl rfl ?_
  refine C_seq ?_
  refine C_region ?_
  refine L_y rfl (y_assign rfl) rfl ?_
  refine L_nil ?_
  refine C_seq ?_
  refine C_seq ?_
  refine C_region ?_
  refine L_y rfl (y_move rfl) rfl ?_
  refine L_y rfl (y_geq rfl rfl) rfl ?_
  refine L_nil ?_
  refine C_cond rfl (fun hc0 => absurd hc0 (by simp <;> omega)) (fun hc0 => ?_)
  refine C_skip ?_
  refine C_seq ?_
  refine C_seq ?_
  refine C_region ?_
  refine L_y rfl (y_move rfl) rfl ?_
  refine L_y rfl (y_geq rfl rfl) rfl ?_
  refine L_nil ?_
  refine C_cond rfl (fun hc1 => absurd hc1 (by simp <;> omega)) (fun hc1 => ?_)
  refine C_skip ?_
  refine C_seq ?_
  refine C_seq ?_
  refine C_region ?_
  refine L_y rfl (y_move rfl) rfl ?_
  refine L_y rfl (y_geq rfl rfl) rfl ?_
  refine L_nil ?_
  refine C_cond rfl (fun hc2 => ?_) (fun hc2 => absurd hc2 (by simp <;> omega))
  refine C_seq ?_
  refine C_region ?_
  refine L_y rfl (y_move rfl) rfl ?_
  refine L_y rfl (y_shr rfl rfl (by omega) (show _ = ((x / 256 : Nat) : Int) from by show Int.fdiv (x : Int) 256 = _; rw [Int.fdiv_eq_ediv_of_nonneg _ (by decide)]; omega)) rfl ?_
  refine L_y rfl (y_assign rfl) rfl ?_
  refine L_nil ?_
  refine C_region ?_
  refine L_y rfl (y_move rfl) rfl ?_
  refine L_y rfl (y_add rfl rfl (show _ = (8 : Int) from rfl)) rfl ?_
  refine L_y rfl (y_assign rfl) rfl ?_
  refine L_nil ?_
  refine C_seq ?_
  refine C_region ?_
  refine L_y rfl (y_move rfl) rfl ?_
  refine L_y rfl (y_move rfl) rfl ?_
  refine L_y rfl (y_conv rfl us_58 Try.underlying5 (show _ = (((x / 256) : Nat) : Int) from by rw [wu8 (by omega) (by omega)])) rfl ?_
  refine L_y rfl (y_indexStr (show _ = some (Value.string len8) from by kernel_rfl) rfl Try.underlying9 (by omega) (len8_at (i := (x / 256)) (by omega))) rfl ?_
  refine L_y rfl (y_conv rfl us_5 Try.underlying3 (show _ = ((Go.Sort.bitsLen (x / 256) : Nat) : Int) from by rw [show (UInt8.ofNat (Go.Sort.bitsLen (x / 256))).toNat = Go.Sort.bitsLen (x / 256) from by rw [UInt8.toNat_ofNat']; omega]; exact wi64 (by omega) (by omega))) rfl ?_
  refine L_y rfl (y_add rfl rfl (show _ = ((Go.Sort.bitsLen x : Nat) : Int) from by rw [wi64 (by omega) (by omega)]; omega)) rfl ?_
  refine L_y rfl (y_assign rfl) rfl ?_
  refine L_nil ?_
  refine C_ret ?_
  refine B_ret (rv_tmp rfl rv_nil) (HSub.refl _) ?_
  exact ⟨rfl, rfl⟩

theorem len64_u {w0 : World} {H : Hp} (x : Nat) (hx : x < 65536) : FnS Try.prog w0 112 #[.int .u64 (x : Int)] H (fun e H' => e = .returned (.int .i64 (Go.Sort.bitsLen x : Int)) ∧ H' = H) := by
  by_cases h : x < 256
  · exact len64_1 x h
  · exact len64_2 x hx (by omega)

theorem len_u {w0 : World} {H : Hp} (x : Nat) (hx : x < 65536) : FnS Try.prog w0 96 #[.int .u64 (x : Int)] H (fun e H' => e = .returned (.int .i64 (Go.Sort.bitsLen x : Int)) ∧ H' = H) := by
  refine FnS_intro (n := 8) (rs := [.tmp 2]) (vs := [.int .u64 (x : Int)]) Try.func96 rfl Try.ntmps96 rfl rfl ?_
  refine C_seq ?_
  refine C_region ?_
  refine L_y rfl (y_assign rfl) rfl ?_
  refine L_nil ?_
  refine C_seq ?_
  refine C_cond_f rfl ?_
  refine C_skip ?_
  refine C_seq ?_
  refine C_region ?_
  refine L_y rfl (y_move rfl) rfl ?_
  refine L_op rfl (op_call rfl rfl (fun a w => Try.call112 a w) rfl ?_)
  refine (len64_u x hx).mono ?_
  rintro _ _ ⟨rfl, e⟩
  obtain rfl := e.symm
  clear e
  refine ⟨_, rfl, ?_⟩
  refine L_y rfl (y_assign rfl) rfl ?_
  refine L_nil ?_
  refine C_ret ?_
  refine B_ret (rv_tmp rfl rv_nil) (HSub.refl _) ?_
  exact ⟨rfl, rfl⟩

theorem pdq12_u {w0 : World} {H : Hp} {sb n cap : Nat} {sp : List Value} (d : Array Nat) (hd : d.size = n) (hn : n < 4611686018427387904) (a b : Nat) (hab : a ≤ b) (hb : b ≤ n) (h12 : b - a ≤ 12) (lv : Value) : FnS Try.prog w0 95 #[(.slice (some ⟨sb, 0, none⟩) n cap), .int .i64 (a : Int), .int .i64 (b : Int), lv] (useg 58 sb d sp :: H) (fun e H' => e = .returned (.tuple #[]) ∧ H' = useg 58 sb (Go.Sort.insertionSort ltN d a b) sp :: H) := by
  refine FnS_intro (n := 134) (rs := []) (vs := [(.slice (some ⟨sb, 0, none⟩) n cap), .int .i64 (a : Int), .int .i64 (b : Int), lv]) Try.func95 rfl Try.ntmps95 rfl rfl ?_
  refine C_seq ?_
  refine C_region ?_
  refine L_y rfl (y_assign rfl) rfl ?_
  refine L_nil ?_
  refine C_seq ?_
  refine C_region ?_
  refine L_y rfl (y_assign rfl) rfl ?_
  refine L_nil ?_
  refine C_block ?_
  refine C_loopIn (In_round ?_)
  refine C_block ?_
  refine C_seq ?_
  refine C_region ?_
  refine L_y rfl (y_move rfl) rfl ?_
  refine L_y rfl (y_move rfl) rfl ?_
  refine L_y rfl (y_sub rfl rfl (wi64 (by omega) (by omega))) rfl ?_
  refine L_y rfl (y_assign rfl) rfl ?_
  refine L_nil ?_
  refine C_seq ?_
  refine C_seq ?_
  refine C_region ?_
  refine L_y rfl (y_move rfl) rfl ?_
  refine L_y rfl (y_leq rfl rfl) rfl ?_
  refine L_nil ?_
  refine C_cond rfl (fun hc0 => ?_) (fun hc0 => absurd hc0 (by simp <;> omega))
  refine C_seq ?_
  refine C_region ?_
  refine L_y rfl (y_move rfl) rfl ?_
  refine L_y rfl (y_move rfl) rfl ?_
  refine L_y rfl (y_move rfl) rfl ?_
  refine L_op rfl (op_call rfl rfl (fun a w => Try.call102 a w) rfl ?_)
  refine (insert_u d hd hn a b hab hb).mono ?_
  rintro _ _ ⟨rfl, rfl⟩
  refine ⟨_, rfl, ?_⟩
  refine L_nil ?_
  refine C_ret ?_
  refine B_ret rv_nil (HSub.refl _) ?_
  exact ⟨rfl, rfl⟩

theorem sort12_u {w0 : World} {H : Hp} {sb n cap : Nat} {sp : List Value} (d : Array Nat) (hd : d.size = n) (hn : n < 4611686018427387904) (h12 : n ≤ 12) : FnS Try.prog w0 76 #[(.slice (some ⟨sb, 0, none⟩) n cap)] (useg 58 sb d sp :: H) (fun e H' => e = .returned (.tuple #[]) ∧ H' = useg 58 sb (Go.Sort.insertionSort ltN d 0 n) sp :: H) := by
  refine FnS_intro (n := 11) (rs := []) (vs := [(.slice (some ⟨sb, 0, none⟩) n cap)]) Try.func76 rfl Try.ntmps76 rfl rfl ?_
  refine C_seq ?_
  refine C_region ?_
  refine L_y rfl (y_move rfl) rfl ?_
  refine L_y rfl (y_lenS rfl rfl Try.underlying63) rfl ?_
  refine L_y rfl (y_assign rfl) rfl ?_
  refine L_nil ?_
  refine C_region ?_
  refine L_y rfl (y_move rfl) rfl ?_
  refine L_y rfl (y_move rfl) rfl ?_
  refine L_y rfl (y_move rfl) rfl ?_
  refine L_y rfl (y_conv rfl us_3 Try.underlying152 (show _ = (n : Int) from wu64 (by omega) (by omega))) rfl ?_
  refine L_op rfl (op_call rfl rfl (fun a w => Try.call96 a w) rfl ?_)
  refine (len_u n (by omega)).mono ?_
  rintro _ _ ⟨rfl, e⟩
  obtain rfl := e.symm
  clear e
  refine ⟨_, rfl, ?_⟩
  refine L_op rfl (op_call rfl rfl (fun a w => Try.call95 a w) rfl ?_)
  refine (pdq12_u d hd hn 0 n (Nat.zero_le _) (Nat.le_refl _) (by omega) _).mono ?_
  rintro _ _ ⟨rfl, rfl⟩
  refine ⟨_, rfl, ?_⟩
  refine L_nil ?_
  refine B_end rv_nil (HSub.refl _) ?_
  exact ⟨rfl, rfl⟩

end Go.Proofs.Ytaeooiogjhkjfaa

/- walks (own work; the walks' lines by a program of this repo). -/
set_option linter.unusedVariables false
set_option linter.unusedSimpArgs false
set_option maxRecDepth 20000
namespace Go.Proofs.Ytaeooiogjhkjfaa
open Go.Sl
attribute [local irreducible] BodyQ WpC WpL WpS WpH OpW FnS



set_option maxHeartbeats 1000000 in

theorem xnums_s {w0 : World} {H : Hp} {o : Xo} {segs size : Int} {l : Xl} {A L : Gm} (h : Xm segs size l A L) (s : Int) (hl : l.length < 1000000) (hB : cnt18 segs size l s ≤ 12) : FnS Try.prog w0 31 #[ptr o.b, .int .i64 s] (o.seg 129 segs size A L :: H) (fun e H' => ∃ g, slOk 1 g (xnums segs size l s).length (us (xnums segs size l s)) ∧ e = .returned (slV g (xnums segs size l s).length) ∧ H' = slSeg 58 g (us (xnums segs size l s)) :: o.seg 129 segs size A L :: H) := by
  refine FnS_intro (n := 45) (rs := [.tmp 4]) (vs := [ptr o.b, .int .i64 s]) Try.func31 rfl Try.ntmps31 rfl rfl ?_
  refine C_seq ?_
  refine C_region ?_
  refine L_y rfl (y_assign rfl) rfl ?_
  refine L_nil ?_
  refine C_seq ?_
  refine C_seq ?_
  refine C_region ?_
  refine L_y rfl (y_move rfl) rfl ?_
  refine L_y rfl (y_move rfl) rfl ?_
  refine L_op rfl (op_call rfl rfl (fun a w => Try.call36 a w) rfl ?_)
  refine (xlive_s h s).mono ?_
  rintro _ _ ⟨rfl, rfl⟩
  refine ⟨_, rfl, ?_⟩
  refine L_y rfl (y_eqi rfl rfl) rfl ?_
  refine L_nil ?_
  refine C_cond rfl (fun hc0 => ?_) (fun hc0 => ?_)
  · replace hc0 := of_decide_eq_true hc0
    refine C_seq ?_
    refine C_region ?_
    refine L_y rfl (y_assign rfl) rfl ?_
    refine L_nil ?_
    refine C_ret ?_
    refine B_ret (rv_tmp rfl rv_nil) (hsub_flat (H' := [] :: o.seg 129 segs size A L :: H) rfl) ?_
    have hz : cnt18 segs size l s = 0 := by omega
    have hn0 : (xnums segs size l s) = [] := List.eq_nil_of_length_eq_zero (by rw [nums_len]; exact hz)
    rw [hn0]
    exact ⟨none, ⟨rfl, rfl⟩, rfl, rfl⟩
  · replace hc0 := of_decide_eq_false hc0
    refine C_skip ?_
    refine C_seq ?_
    refine C_region ?_
    refine L_y rfl (y_assign rfl) rfl ?_
    refine L_nil ?_
    refine C_seq ?_
    refine C_seq ?_
    refine C_region ?_
    refine L_y rfl (y_move rfl) rfl ?_
    refine L_y rfl (y_nilCheck rfl) rfl ?_
    refine L_y rfl (y_fieldAddr rfl fl_129_1) rfl ?_
    refine L_y rfl (y_load rfl ag_126 (sees 0 0 rfl) rfl) rfl ?_
    refine L_op rfl (op_rangeG rfl Try.underlying126 0 1 rfl rfl (fun B1 => ?_))
    refine L_nil ?_
    refine C_block ?_
    refine C_loop (ι := Xl × Array Nat × Option SlG) (fun i => [(0, ptr o.b), (1, .int .i64 s), (5, slV i.2.2 (xnums segs size i.1 s).length), (19, ptr B1)]) (fun i => [(B1, itO o.r1 A.ck i.2.1 A.ck)] :: slSeg 58 i.2.2 (us (xnums segs size i.1 s)) :: o.seg 129 segs size A L :: H) (fun i => (i.1.map xpair ++ (A.left i.2.1).map kv).Perm (l.map xpair) ∧ slOk 1 i.2.2 (xnums segs size i.1 s).length (us (xnums segs size i.1 s))) (fun i => (A.left i.2.1).length) ([], #[], none) ⟨left_start h.perm, rfl, rfl⟩ ⟨rfl, rfl, rfl, rfl, trivial⟩ (hsub_flat rfl) (fun i hi => ?_)
    obtain ⟨v, seen, g⟩ := i
    obtain ⟨hpm, hok⟩ := hi
    try simp only at hpm hok
    try dsimp only
    refine C_seq ?_
    refine C_region ?_
    refine L_op rfl (op_nextG 0 0 2 1 rfl rfl rfl (fun x hx => h.okA.lt x hx) (Nat.le_refl _) rfl (fun hnx => ?_) (fun en hen => ?_))
    · skip
      refine L_y rfl (y_extract rfl rfl) rfl ?_
      refine L_nil ?_
      refine C_seq ?_
      refine C_cond_f rfl ?_
      refine C_exit ?_
      refine C_seq ?_
      refine C_region ?_
      refine L_y rfl (y_move rfl) rfl ?_
      refine L_op rfl (op_call rfl rfl (fun a w => Try.call76 a w) rfl ?_)
      have hvp := left_end hpm hnx
      have hlen : (xnums segs size v s).length = (xnums segs size l s).length := (xnums_perm hvp s).length_eq
      have hcn := nums_len segs size l s
      cases g with
      | none => exact absurd hok.2 (by omega)
      | some g => ?_
      refine (FnS.sub (hsub_pick [1] rfl) (sort12_u (sb := g.b) (n := (xnums segs size v s).length) (cap := g.cap) (sp := g.sp) (xnums segs size v s).toArray (by simp) (by omega) (by omega))).mono ?_
      rintro _ _ ⟨rfl, rfl⟩
      refine ⟨_, rfl, ?_⟩
      refine L_nil ?_
      refine C_seq ?_
      refine C_region ?_
      refine L_y rfl (y_move rfl) rfl ?_
      refine L_y rfl (y_assign rfl) rfl ?_
      refine L_nil ?_
      refine C_ret ?_
      refine B_ret (rv_tmp rfl rv_nil) ((hsub (.cons_cons _ (.cons_cons _ (.cons _ (.refl _))))).trans (hsub_pick [0, 1] rfl)) ?_
      have hlaw := (Go.Sort.insertionSort_holds swo_N (xnums segs size v s).toArray 0 (xnums segs size v s).toArray.size (Nat.zero_le _) (Nat.le_refl _))
      have hsz : ((xnums segs size v s).toArray).size = (xnums segs size v s).length := by simp
      have hr := sorted_list hlaw.1 hlaw.2 (xnums_perm hvp s) (xnums_sorted h.s s)
      rw [hsz] at hr
      refine ⟨some g, ?_, ?_, ?_⟩
      · refine ⟨by rw [us_len, Nat.mul_one], ?_, ?_⟩
        · rw [us_len, ← hlen, ← us_len]; exact hok.2.1
        · rw [← hlen]; exact hok.2.2
      · rw [← hlen]; rfl
      · show useg 58 g.b _ g.sp :: _ = _
        unfold useg
        rw [hr]; rfl
    · obtain ⟨q, hq, eq1, eq2⟩ := left_in hpm hen
      obtain ⟨ek, ev_, eb⟩ := en
      simp only at eq1 eq2
      subst eq1 eq2
      obtain ⟨t, hb⟩ : ∃ t, ofS segs size q.2 = some t := by
        cases e : ofS segs size q.2 with
        | none => exact absurd e (h.valid q hq).2.2
        | some t => exact ⟨t, rfl⟩
      refine L_y rfl (y_extract rfl rfl) rfl ?_
      refine L_nil ?_
      refine C_seq ?_
      refine C_cond_t rfl ?_
      refine C_skip ?_
      refine C_block ?_
      refine C_seq ?_
      refine C_region ?_
      refine L_y rfl (y_entryG rfl (sees 0 0 rfl) (sees 2 1 rfl) h.okA (Gm.left_mem hen)) rfl ?_
      refine L_y rfl (y_extract rfl rfl) rfl ?_
      refine L_y rfl (y_extract rfl rfl) rfl ?_
      refine L_y rfl (y_assign rfl) rfl ?_
      refine L_y rfl (y_assign rfl) rfl ?_
      refine L_nil ?_
      refine C_seq ?_
      refine C_region ?_
      refine L_y rfl (y_move rfl) rfl ?_
      refine L_y rfl (y_nilCheck rfl) rfl ?_
      refine L_y rfl (y_fieldAddr rfl fl_129_0) rfl ?_
      refine L_y rfl (y_loadA rfl ag_51 sz_51 (sees 2 0 rfl) (Nat.le_of_ble_eq_true rfl) rfl) rfl ?_
      refine L_y rfl (y_move rfl) rfl ?_
      refine L_op rfl (op_call rfl rfl (fun a w => Try.call40 a w) rfl ?_)
      refine (of_s segs size q.2).mono ?_
      rw [hb]
      rintro _ _ ⟨rfl, rfl⟩
      refine ⟨_, rfl, ?_⟩
      refine L_y rfl (y_move rfl) rfl ?_
      refine L_y rfl (y_extract rfl rfl) rfl ?_
      refine L_y rfl (y_extract rfl rfl) rfl ?_
      refine L_y rfl (y_extract rfl rfl) rfl ?_
      refine L_y rfl (y_assign rfl) rfl ?_
      refine L_y rfl (y_assign rfl) rfl ?_
      refine L_y rfl (y_assign rfl) rfl ?_
      refine L_nil ?_
      refine C_seq ?_
      refine C_region ?_
      refine L_y rfl (y_move rfl) rfl ?_
      refine L_y rfl (y_move rfl) rfl ?_
      refine L_y rfl (y_eqi rfl rfl) rfl ?_
      refine L_nil ?_
      refine C_cond rfl (fun hc2 => ?_) (fun hc2 => ?_)
      · have hc1 : t = s := of_decide_eq_true hc2
        refine C_region ?_
        refine L_y rfl (y_move rfl) rfl ?_
        refine L_y rfl (y_move rfl) rfl ?_
        refine L_op rfl (op_buildSlice (vs := [(0, _)]) rfl Try.underlying63 sz_58 zl_58 rfl (by decide) rfl rfl (fun B2 => ?_))
        refine L_op rfl (op_append (gs := g) (len := (xnums segs size v s).length) (m := 1) (xs := us (xnums segs size v s)) (vs := us [q.1]) 2 rfl rfl rfl hok (src_slice (sees 0 0 rfl) (Nat.le_of_ble_eq_true rfl) rfl) rfl (fun v hv => by simp [us] at hv; subst hv; rfl) Try.underlying63 ni_63 sz_58 by_58 (by decide) zl_58 rfl (by rw [nums_len]; have := cnt_le segs size v s; have := left_len hpm; omega) rfl (fun g2 hg2 => ?_))
        rw [← us_append, show (xnums segs size v s) ++ [q.1] = xnums segs size (v ++ [q]) s from by rw [xnums_snoc, if_pos (by rw [hb, hc1])], show (xnums segs size v s).length + 1 = (xnums segs size (v ++ [q]) s).length from by rw [xnums_snoc, if_pos (by rw [hb, hc1]), List.length_append]; rfl] at hg2 ⊢
        refine L_y rfl (y_assign rfl) rfl ?_
        refine L_nil ?_
        refine ⟨(v ++ [q], _, g2), ⟨left_next h.okA hpm hen rfl rfl, hg2⟩, left_less h.okA hen, ⟨rfl, rfl, rfl, rfl, trivial⟩, ((hsub (.cons_cons _ (.cons_cons _ (.cons_cons _ (.cons _ (.refl _)))))).trans (hsub_pick [1, 1, 1] rfl))⟩
      · have hc1 : ¬ t = s := of_decide_eq_false hc2
        refine C_skip ?_
        have e9 : xnums segs size (v ++ [q]) s = xnums segs size v s := by rw [xnums_snoc, if_neg (by rw [hb]; intro e; exact hc1 (Option.some.inj e)), List.append_nil]
        refine ⟨(v ++ [q], _, g), ⟨left_next h.okA hpm hen rfl rfl, ?_⟩, left_less h.okA hen, ⟨rfl, rfl, ?_, rfl, trivial⟩, ?_⟩ <;> try simp only <;> try rw [e9]
        · exact hok
        · rfl
        · exact ((hsub (.cons_cons _ (.cons_cons _ (.cons_cons _ (.refl _))))).trans (hsub_pick [0, 0, 0] rfl))

end Go.Proofs.Ytaeooiogjhkjfaa

/- walks (own work; the walks' lines by a program of this repo). -/
set_option linter.unusedVariables false
set_option linter.unusedSimpArgs false
set_option maxRecDepth 20000
namespace Go.Proofs.Ytaeooiogjhkjfaa
open Go.Sl
attribute [local irreducible] BodyQ WpC WpL WpS WpH OpW FnS


set_option maxHeartbeats 1000000 in

theorem victim_y {w0 : World} {H : Hp} {o : Xo} {segs size : Int} {l : Xl} {A L : Gm} (h : Xm segs size l A L) {f : Nat} {cap : List Value} {C : Nat → List (Nat × Obj)} {p : Nat → Bool} (hcf : ∀ args w, (callFunc f args).run Try.prog w = .ok (.enter f args) w) (hcl : ∀ k : Nat, (k : Int) < segs → ∀ H1, HSub H H1 → FnS Try.prog w0 f ([Value.int .i64 (k : Int)] ++ cap).toArray (C k :: H1) (fun e H2 => e = .returned (.bool (p k)) ∧ H2 = C (k + 1) :: H1)) (hm : mayG segs size = true) : FnS Try.prog w0 34 #[ptr o.b, (.func (.func f) #[] cap.toArray)] (C 0 :: o.seg 129 segs size A L :: H) (fun e H' => e = .returned (.tuple #[.int .i64 (((vic p (fun j => cnt18 segs size l (j : Int)) segs.toNat).getD 0 : Nat) : Int), .bool (vic p (fun j => cnt18 segs size l (j : Int)) segs.toNat).isSome]) ∧ H' = C segs.toNat :: o.seg 129 segs size A L :: H) := by
  obtain ⟨g1, g2, g3, g4⟩ := mayG_spec hm
  refine FnS_intro (n := 57) (rs := [.tmp 4, .tmp 5]) (vs := [ptr o.b, (.func (.func f) #[] cap.toArray)]) Try.func34 rfl Try.ntmps34 rfl rfl ?_
  refine C_seq ?_
  refine C_region ?_
  refine L_y rfl (y_assign rfl) rfl ?_
  refine L_y rfl (y_assign rfl) rfl ?_
  refine L_nil ?_
  refine C_seq ?_
  refine C_seq ?_
  refine C_region ?_
  refine L_y rfl (y_move rfl) rfl ?_
  refine L_y rfl (y_eqp rfl rfl Try.underlying55) rfl ?_
  refine L_y rfl (y_move rfl) rfl ?_
  refine L_y rfl (y_move rfl) rfl ?_
  refine L_y rfl (y_eqfn rfl rfl Try.underlying72) rfl ?_
  refine L_y rfl (y_pick_f rfl rfl) rfl ?_
  refine L_y rfl (y_move rfl) rfl ?_
  refine L_y rfl (y_move rfl) rfl ?_
  refine L_y rfl (y_nilCheck rfl) rfl ?_
  refine L_y rfl (y_fieldAddr rfl fl_129_0) rfl ?_
  refine L_y rfl (y_loadA rfl ag_51 sz_51 (sees 1 0 rfl) (Nat.le_of_ble_eq_true rfl) rfl) rfl ?_
  refine L_op rfl (op_call rfl rfl (fun a w => Try.call27 a w) rfl ?_)
  refine (check_s segs size).mono ?_
  rintro _ _ ⟨rfl, e⟩
  obtain rfl := e.symm
  clear e
  rw [show chkE segs size = 0 from by unfold chkE; rw [hm]; rfl]
  refine ⟨_, rfl, ?_⟩
  refine L_y rfl (y_nei rfl rfl) rfl ?_
  refine L_y rfl (y_pick_f rfl rfl) rfl ?_
  refine L_nil ?_
  refine C_cond_f rfl ?_
  refine C_skip ?_
  refine C_seq ?_
  refine C_region ?_
  refine L_y rfl (y_assign rfl) rfl ?_
  refine L_y rfl (y_assign rfl) rfl ?_
  refine L_nil ?_
  refine C_seq ?_
  refine C_seq ?_
  refine C_region ?_
  refine L_y rfl (y_move rfl) rfl ?_
  refine L_y rfl (y_nilCheck rfl) rfl ?_
  refine L_y rfl (y_fieldAddr rfl fl_129_0) rfl ?_
  refine L_y rfl (y_fieldAddr rfl fl_51_0) rfl ?_
  refine L_y rfl (y_load rfl ag_3 (sees 1 0 rfl) rfl) rfl ?_
  refine L_y rfl (y_move rfl) rfl ?_
  refine L_nil ?_
  refine C_block ?_
  refine C_loop (ι := Nat) (fun k => [(0, ptr o.b), (1, (.func (.func f) #[] cap.toArray)), (6, .int .i64 ((((vic p (fun j => cnt18 segs size l (j : Int)) k).getD 0 : Nat)) : Int)), (7, .bool (vic p (fun j => cnt18 segs size l (j : Int)) k).isSome), (27, .int .i64 segs), (28, .int .i64 (k : Int))]) (fun k => C k :: o.seg 129 segs size A L :: H) (fun k => (k : Int) ≤ segs) (fun k => segs.toNat - k) 0 (by omega) ⟨rfl, rfl, rfl, rfl, rfl, rfl, trivial⟩ ((hsub (.cons_cons _ (.cons_cons _ (.refl _)))).trans (hsub_pick [0, 0] rfl)) (fun k hk => ?_)
  skip
  refine C_seq ?_
  refine C_region ?_
  refine L_y rfl (y_lss rfl rfl) rfl ?_
  refine L_nil ?_
  refine C_seq ?_
  refine C_cond rfl (fun hc1 => ?_) (fun hc1 => ?_)
  · replace hc1 : (k : Int) < segs := of_decide_eq_true hc1
    refine C_skip ?_
    refine C_seq ?_
    refine C_block ?_
    refine C_seq ?_
    refine C_region ?_
    refine L_y rfl (y_move rfl) rfl ?_
    refine L_y rfl (y_assign rfl) rfl ?_
    refine L_nil ?_
    refine C_seq ?_
    refine C_regionH (o.seg 129 segs size A L :: H) (by kernel_rfl) ?_
    refine H_y 0 rfl (by kernel_rfl) (by kernel_rfl) (by kernel_rfl) (((hsub (.cons_cons _ (.cons _ (.refl _)))).trans (hsub_pick [1] rfl))) rfl (y_move rfl) rfl ?_
    refine H_y 1 rfl (by kernel_rfl) (by kernel_rfl) (by kernel_rfl) (((hsub (.cons_cons _ (.cons _ (.refl _)))).trans (hsub_pick [1] rfl))) rfl (y_move rfl) rfl ?_
    refine H_one 2 rfl (by kernel_rfl) rfl (op_call (f := f) (first := []) (cap := cap) rfl rfl hcf rfl ?_)
    refine FnS.mono (hcl k (by omega) _ (HSub.drop _ _)) ?_
    rintro _ _ ⟨rfl, rfl⟩
    refine ⟨_, rfl, ?_⟩
    refine ⟨((hsub (.cons_cons _ (.cons _ (.refl _)))).trans (hsub_pick [1] rfl)), ?_⟩
    refine H_y 3 rfl (by kernel_rfl) (by kernel_rfl) (by kernel_rfl) (((hsub (.cons_cons _ (.cons _ (.refl _)))).trans (hsub_pick [1] rfl))) rfl (y_move rfl) rfl ?_
    refine H_case 34 rfl (fun hg7_4 => ?_) (fun hg7_4 => ?_)
    · have hpk : p k = true := hg7_4
      refine H_y 4 rfl (by kernel_rfl) (by kernel_rfl) (by kernel_rfl) (((hsub (.cons_cons _ (.cons _ (.refl _)))).trans (hsub_pick [1] rfl))) rfl (y_move rfl) rfl ?_
      refine H_y 5 rfl (by kernel_rfl) (by kernel_rfl) (by kernel_rfl) (((hsub (.cons_cons _ (.cons _ (.refl _)))).trans (hsub_pick [1] rfl))) rfl (y_not rfl) rfl ?_
      refine H_y 6 rfl (by kernel_rfl) (by kernel_rfl) (by kernel_rfl) (((hsub (.cons_cons _ (.cons _ (.refl _)))).trans (hsub_pick [1] rfl))) rfl (y_move rfl) rfl ?_
      refine H_case 37 rfl (fun hg7_7 => ?_) (fun hg7_7 => ?_)
      · have hv : (vic p (fun j => cnt18 segs size l (j : Int)) k) = none := by simpa using hg7_7
        refine H_skip 7 rfl (by kernel_rfl) (by kernel_rfl) (by kernel_rfl) (((hsub (.cons_cons _ (.cons _ (.refl _)))).trans (hsub_pick [1] rfl))) rfl rfl ?_
        refine H_skip 8 rfl (by kernel_rfl) (by kernel_rfl) (by kernel_rfl) (((hsub (.cons_cons _ (.cons _ (.refl _)))).trans (hsub_pick [1] rfl))) rfl rfl ?_
        refine H_skip 9 rfl (by kernel_rfl) (by kernel_rfl) (by kernel_rfl) (((hsub (.cons_cons _ (.cons _ (.refl _)))).trans (hsub_pick [1] rfl))) rfl rfl ?_
        refine H_skip 10 rfl (by kernel_rfl) (by kernel_rfl) (by kernel_rfl) (((hsub (.cons_cons _ (.cons _ (.refl _)))).trans (hsub_pick [1] rfl))) rfl rfl ?_
        refine H_skip 11 rfl (by kernel_rfl) (by kernel_rfl) (by kernel_rfl) (((hsub (.cons_cons _ (.cons _ (.refl _)))).trans (hsub_pick [1] rfl))) rfl rfl ?_
        refine H_skip 12 rfl (by kernel_rfl) (by kernel_rfl) (by kernel_rfl) (((hsub (.cons_cons _ (.cons _ (.refl _)))).trans (hsub_pick [1] rfl))) rfl rfl ?_
        refine H_skip 13 rfl (by kernel_rfl) (by kernel_rfl) (by kernel_rfl) (((hsub (.cons_cons _ (.cons _ (.refl _)))).trans (hsub_pick [1] rfl))) rfl rfl ?_
        refine H_skip 14 rfl (by kernel_rfl) (by kernel_rfl) (by kernel_rfl) (((hsub (.cons_cons _ (.cons _ (.refl _)))).trans (hsub_pick [1] rfl))) rfl rfl ?_
        refine H_skip 15 rfl (by kernel_rfl) (by kernel_rfl) (by kernel_rfl) (((hsub (.cons_cons _ (.cons _ (.refl _)))).trans (hsub_pick [1] rfl))) rfl rfl ?_
        refine H_skip 16 rfl (by kernel_rfl) (by kernel_rfl) (by kernel_rfl) (((hsub (.cons_cons _ (.cons _ (.refl _)))).trans (hsub_pick [1] rfl))) rfl rfl ?_
        refine H_skip 17 rfl (by kernel_rfl) (by kernel_rfl) (by kernel_rfl) (((hsub (.cons_cons _ (.cons _ (.refl _)))).trans (hsub_pick [1] rfl))) rfl rfl ?_
        refine H_skip 18 rfl (by kernel_rfl) (by kernel_rfl) (by kernel_rfl) (((hsub (.cons_cons _ (.cons _ (.refl _)))).trans (hsub_pick [1] rfl))) rfl rfl ?_
        refine H_skip 19 rfl (by kernel_rfl) (by kernel_rfl) (by kernel_rfl) (((hsub (.cons_cons _ (.cons _ (.refl _)))).trans (hsub_pick [1] rfl))) rfl rfl ?_
        refine H_y 20 rfl (by kernel_rfl) (by kernel_rfl) (by kernel_rfl) (((hsub (.cons_cons _ (.cons _ (.refl _)))).trans (hsub_pick [1] rfl))) rfl (y_pick_t rfl rfl) rfl ?_
        refine H_y 21 rfl (by kernel_rfl) (by kernel_rfl) (by kernel_rfl) (((hsub (.cons_cons _ (.cons _ (.refl _)))).trans (hsub_pick [1] rfl))) rfl (y_pick_t rfl rfl) rfl ?_
        refine H_done (by kernel_rfl) ?_
        refine C_cond_t rfl ?_
        refine C_region ?_
        refine L_y rfl (y_move rfl) rfl ?_
        refine L_y rfl (y_assign rfl) rfl ?_
        refine L_y rfl (y_assign rfl) rfl ?_
        refine L_nil ?_
        refine C_region ?_
        refine L_y rfl (y_add rfl rfl (wi64 (by omega) (by omega))) rfl ?_
        refine L_y rfl (y_move rfl) rfl ?_
        refine L_nil ?_
        have hx : (vic p (fun j => cnt18 segs size l (j : Int)) (k + 1)) = some k := by first | exact vic_first hpk hv | exact vic_less hpk hv hless
        refine ⟨k + 1, by omega, by omega, ?_⟩
        try dsimp only
        rw [hx]
        exact ⟨⟨rfl, rfl, rfl, rfl, rfl, rfl, trivial⟩, ((hsub (.cons_cons _ (.cons_cons _ (.refl _)))).trans (hsub_pick [0, 0] rfl))⟩
      · obtain ⟨b, hv⟩ : ∃ b, (vic p (fun j => cnt18 segs size l (j : Int)) k) = some b := Option.isSome_iff_exists.1 (by simpa using hg7_7)
        refine H_y 7 rfl (by kernel_rfl) (by kernel_rfl) (by kernel_rfl) (((hsub (.cons_cons _ (.cons _ (.refl _)))).trans (hsub_pick [1] rfl))) rfl (y_move rfl) rfl ?_
        refine H_y 8 rfl (by kernel_rfl) (by kernel_rfl) (by kernel_rfl) (((hsub (.cons_cons _ (.cons _ (.refl _)))).trans (hsub_pick [1] rfl))) rfl (y_nilCheck rfl) rfl ?_
        refine H_y 9 rfl (by kernel_rfl) (by kernel_rfl) (by kernel_rfl) (((hsub (.cons_cons _ (.cons _ (.refl _)))).trans (hsub_pick [1] rfl))) rfl (y_fieldAddr rfl fl_129_2) rfl ?_
        refine H_y 10 rfl (by kernel_rfl) (by kernel_rfl) (by kernel_rfl) (((hsub (.cons_cons _ (.cons _ (.refl _)))).trans (hsub_pick [1] rfl))) rfl (y_load rfl ag_127 (sees 0 0 rfl) rfl) rfl ?_
        refine H_y 11 rfl (by kernel_rfl) (by kernel_rfl) (by kernel_rfl) (((hsub (.cons_cons _ (.cons _ (.refl _)))).trans (hsub_pick [1] rfl))) rfl (y_move rfl) rfl ?_
        refine H_y 12 rfl (by kernel_rfl) (by kernel_rfl) (by kernel_rfl) (((hsub (.cons_cons _ (.cons _ (.refl _)))).trans (hsub_pick [1] rfl))) rfl (y_lookupG rfl rfl Try.underlying127 Try.underlying3 zt_3 (sees 0 2 rfl)) rfl ?_
        refine H_y 13 rfl (by kernel_rfl) (by kernel_rfl) (by kernel_rfl) (((hsub (.cons_cons _ (.cons _ (.refl _)))).trans (hsub_pick [1] rfl))) rfl (y_move rfl) rfl ?_
        refine H_y 14 rfl (by kernel_rfl) (by kernel_rfl) (by kernel_rfl) (((hsub (.cons_cons _ (.cons _ (.refl _)))).trans (hsub_pick [1] rfl))) rfl (y_nilCheck rfl) rfl ?_
        refine H_y 15 rfl (by kernel_rfl) (by kernel_rfl) (by kernel_rfl) (((hsub (.cons_cons _ (.cons _ (.refl _)))).trans (hsub_pick [1] rfl))) rfl (y_fieldAddr rfl fl_129_2) rfl ?_
        refine H_y 16 rfl (by kernel_rfl) (by kernel_rfl) (by kernel_rfl) (((hsub (.cons_cons _ (.cons _ (.refl _)))).trans (hsub_pick [1] rfl))) rfl (y_load rfl ag_127 (sees 0 0 rfl) rfl) rfl ?_
        refine H_y 17 rfl (by kernel_rfl) (by kernel_rfl) (by kernel_rfl) (((hsub (.cons_cons _ (.cons _ (.refl _)))).trans (hsub_pick [1] rfl))) rfl (y_move rfl) rfl ?_
        refine H_y 18 rfl (by kernel_rfl) (by kernel_rfl) (by kernel_rfl) (((hsub (.cons_cons _ (.cons _ (.refl _)))).trans (hsub_pick [1] rfl))) rfl (y_lookupG rfl rfl Try.underlying127 Try.underlying3 zt_3 (sees 0 2 rfl)) rfl ?_
        rw [h.liv, h.liv]
        refine H_y 19 rfl (by kernel_rfl) (by kernel_rfl) (by kernel_rfl) (((hsub (.cons_cons _ (.cons _ (.refl _)))).trans (hsub_pick [1] rfl))) rfl (y_lss rfl rfl) rfl ?_
        refine H_y 20 rfl (by kernel_rfl) (by kernel_rfl) (by kernel_rfl) (((hsub (.cons_cons _ (.cons _ (.refl _)))).trans (hsub_pick [1] rfl))) rfl (y_pick_f rfl rfl) rfl ?_
        refine H_y 21 rfl (by kernel_rfl) (by kernel_rfl) (by kernel_rfl) (((hsub (.cons_cons _ (.cons _ (.refl _)))).trans (hsub_pick [1] rfl))) rfl (y_pick_t rfl rfl) rfl ?_
        refine H_done (by kernel_rfl) ?_
        refine C_cond rfl (fun hc2 => ?_) (fun hc2 => ?_)
        · have hless : cnt18 segs size l (k : Int) < cnt18 segs size l (b : Int) := by have h5 := of_decide_eq_true hc2; rw [hv] at h5; exact Int.ofNat_lt.1 h5
          refine C_region ?_
          refine L_y rfl (y_move rfl) rfl ?_
          refine L_y rfl (y_assign rfl) rfl ?_
          refine L_y rfl (y_assign rfl) rfl ?_
          refine L_nil ?_
          refine C_region ?_
          refine L_y rfl (y_add rfl rfl (wi64 (by omega) (by omega))) rfl ?_
          refine L_y rfl (y_move rfl) rfl ?_
          refine L_nil ?_
          have hx : (vic p (fun j => cnt18 segs size l (j : Int)) (k + 1)) = some k := by first | exact vic_first hpk hv | exact vic_less hpk hv hless
          refine ⟨k + 1, by omega, by omega, ?_⟩
          try dsimp only
          rw [hx]
          exact ⟨⟨rfl, rfl, rfl, rfl, rfl, rfl, trivial⟩, ((hsub (.cons_cons _ (.cons_cons _ (.refl _)))).trans (hsub_pick [0, 0] rfl))⟩
        · have hless : ¬ cnt18 segs size l (k : Int) < cnt18 segs size l (b : Int) := by have h5 := of_decide_eq_false hc2; rw [hv] at h5; exact fun h6 => h5 (Int.ofNat_lt.2 h6)
          refine C_skip ?_
          refine C_region ?_
          refine L_y rfl (y_add rfl rfl (wi64 (by omega) (by omega))) rfl ?_
          refine L_y rfl (y_move rfl) rfl ?_
          refine L_nil ?_
          have hx : (vic p (fun j => cnt18 segs size l (j : Int)) (k + 1)) = (vic p (fun j => cnt18 segs size l (j : Int)) k) := by first | exact vic_no hpk | exact vic_not hpk hv hless
          refine ⟨k + 1, by omega, by omega, ?_⟩
          try dsimp only
          rw [hx]
          exact ⟨⟨rfl, rfl, rfl, rfl, rfl, rfl, trivial⟩, ((hsub (.cons_cons _ (.cons_cons _ (.refl _)))).trans (hsub_pick [0, 0] rfl))⟩
    · have hpk : p k = false := hg7_4
      refine H_skip 4 rfl (by kernel_rfl) (by kernel_rfl) (by kernel_rfl) (((hsub (.cons_cons _ (.cons _ (.refl _)))).trans (hsub_pick [1] rfl))) rfl rfl ?_
      refine H_skip 5 rfl (by kernel_rfl) (by kernel_rfl) (by kernel_rfl) (((hsub (.cons_cons _ (.cons _ (.refl _)))).trans (hsub_pick [1] rfl))) rfl rfl ?_
      refine H_skip 6 rfl (by kernel_rfl) (by kernel_rfl) (by kernel_rfl) (((hsub (.cons_cons _ (.cons _ (.refl _)))).trans (hsub_pick [1] rfl))) rfl rfl ?_
      refine H_skip 7 rfl (by kernel_rfl) (by kernel_rfl) (by kernel_rfl) (((hsub (.cons_cons _ (.cons _ (.refl _)))).trans (hsub_pick [1] rfl))) rfl rfl ?_
      refine H_skip 8 rfl (by kernel_rfl) (by kernel_rfl) (by kernel_rfl) (((hsub (.cons_cons _ (.cons _ (.refl _)))).trans (hsub_pick [1] rfl))) rfl rfl ?_
      refine H_skip 9 rfl (by kernel_rfl) (by kernel_rfl) (by kernel_rfl) (((hsub (.cons_cons _ (.cons _ (.refl _)))).trans (hsub_pick [1] rfl))) rfl rfl ?_
      refine H_skip 10 rfl (by kernel_rfl) (by kernel_rfl) (by kernel_rfl) (((hsub (.cons_cons _ (.cons _ (.refl _)))).trans (hsub_pick [1] rfl))) rfl rfl ?_
      refine H_skip 11 rfl (by kernel_rfl) (by kernel_rfl) (by kernel_rfl) (((hsub (.cons_cons _ (.cons _ (.refl _)))).trans (hsub_pick [1] rfl))) rfl rfl ?_
      refine H_skip 12 rfl (by kernel_rfl) (by kernel_rfl) (by kernel_rfl) (((hsub (.cons_cons _ (.cons _ (.refl _)))).trans (hsub_pick [1] rfl))) rfl rfl ?_
      refine H_skip 13 rfl (by kernel_rfl) (by kernel_rfl) (by kernel_rfl) (((hsub (.cons_cons _ (.cons _ (.refl _)))).trans (hsub_pick [1] rfl))) rfl rfl ?_
      refine H_skip 14 rfl (by kernel_rfl) (by kernel_rfl) (by kernel_rfl) (((hsub (.cons_cons _ (.cons _ (.refl _)))).trans (hsub_pick [1] rfl))) rfl rfl ?_
      refine H_skip 15 rfl (by kernel_rfl) (by kernel_rfl) (by kernel_rfl) (((hsub (.cons_cons _ (.cons _ (.refl _)))).trans (hsub_pick [1] rfl))) rfl rfl ?_
      refine H_skip 16 rfl (by kernel_rfl) (by kernel_rfl) (by kernel_rfl) (((hsub (.cons_cons _ (.cons _ (.refl _)))).trans (hsub_pick [1] rfl))) rfl rfl ?_
      refine H_skip 17 rfl (by kernel_rfl) (by kernel_rfl) (by kernel_rfl) (((hsub (.cons_cons _ (.cons _ (.refl _)))).trans (hsub_pick [1] rfl))) rfl rfl ?_
      refine H_skip 18 rfl (by kernel_rfl) (by kernel_rfl) (by kernel_rfl) (((hsub (.cons_cons _ (.cons _ (.refl _)))).trans (hsub_pick [1] rfl))) rfl rfl ?_
      refine H_skip 19 rfl (by kernel_rfl) (by kernel_rfl) (by kernel_rfl) (((hsub (.cons_cons _ (.cons _ (.refl _)))).trans (hsub_pick [1] rfl))) rfl rfl ?_
      refine H_skip 20 rfl (by kernel_rfl) (by kernel_rfl) (by kernel_rfl) (((hsub (.cons_cons _ (.cons _ (.refl _)))).trans (hsub_pick [1] rfl))) rfl rfl ?_
      refine H_y 21 rfl (by kernel_rfl) (by kernel_rfl) (by kernel_rfl) (((hsub (.cons_cons _ (.cons _ (.refl _)))).trans (hsub_pick [1] rfl))) rfl (y_pick_f rfl rfl) rfl ?_
      refine H_done (by kernel_rfl) ?_
      refine C_cond_f rfl ?_
      refine C_skip ?_
      refine C_region ?_
      refine L_y rfl (y_add rfl rfl (wi64 (by omega) (by omega))) rfl ?_
      refine L_y rfl (y_move rfl) rfl ?_
      refine L_nil ?_
      have hx : (vic p (fun j => cnt18 segs size l (j : Int)) (k + 1)) = (vic p (fun j => cnt18 segs size l (j : Int)) k) := by first | exact vic_no hpk | exact vic_not hpk hv hless
      refine ⟨k + 1, by omega, by omega, ?_⟩
      try dsimp only
      rw [hx]
      exact ⟨⟨rfl, rfl, rfl, rfl, rfl, rfl, trivial⟩, ((hsub (.cons_cons _ (.cons_cons _ (.refl _)))).trans (hsub_pick [0, 0] rfl))⟩
  · replace hc1 : ¬ (k : Int) < segs := of_decide_eq_false hc1
    refine C_exit ?_
    refine C_seq ?_
    have hk2 : k = segs.toNat := by omega
    subst hk2
    refine C_region ?_
    refine L_y rfl (y_move rfl) rfl ?_
    refine L_y rfl (y_move rfl) rfl ?_
    refine L_y rfl (y_assign rfl) rfl ?_
    refine L_y rfl (y_assign rfl) rfl ?_
    refine L_nil ?_
    refine C_ret ?_
    refine B_ret (rv_tmp rfl (rv_tmp rfl rv_nil)) ((hsub (.cons_cons _ (.cons_cons _ (.refl _)))).trans (hsub_pick [0, 0] rfl)) ?_
    exact ⟨rfl, rfl⟩

end Go.Proofs.Ytaeooiogjhkjfaa

/- walks (own work; the walks' lines by a program of this repo). -/
set_option linter.unusedVariables false
set_option linter.unusedSimpArgs false
set_option maxRecDepth 20000
namespace Go.Proofs.Ytaeooiogjhkjfaa
open Go.Sl
attribute [local irreducible] BodyQ WpC WpL WpS WpH OpW FnS



set_option maxHeartbeats 1000000 in

theorem awake18_s {w0 : World} {H : Hp}  : FnS Try.prog w0 26 #[] H (fun e H' => e = .returned (.bool true) ∧ H' = H) := by
  refine FnS_intro (n := 55) (rs := [.tmp 0]) (vs := []) Try.func26 rfl Try.ntmps26 rfl rfl ?_
  refine C_seq ?_
  refine C_region ?_
  refine L_y rfl (y_assign rfl) rfl ?_
  refine L_nil ?_
  refine C_seq ?_
  refine C_region ?_
  refine L_y rfl (y_build (vs := [(0, _), (1, _)]) rfl pl_51 zl_51 (fill_cons (off := 0) (m := 1) (vs := [_]) rfl rfl rfl (Nat.le_of_ble_eq_true rfl) (fill_cons (off := 1) (m := 1) (vs := [_]) rfl rfl rfl (Nat.le_of_ble_eq_true rfl) rfl))) rfl ?_
  refine L_op rfl (op_call rfl rfl (fun a w => Try.call28 a w) rfl ?_)
  refine (xnew_s 4 2).mono ?_
  rintro _ _ ⟨o1, rfl, rfl⟩
  have hX1 := Xm.new 4 2
  refine ⟨_, rfl, ?_⟩
  refine L_y rfl (y_assign rfl) rfl ?_
  refine L_nil ?_
  refine C_seq ?_
  refine C_region ?_
  refine L_y rfl (y_move rfl) rfl ?_
  refine L_op rfl (op_call rfl rfl (fun a w => Try.call29 a w) rfl ?_)
  refine (FnS.sub (hsub_pick [0] rfl) (xput_s hX1 7 (by decide) 4 (by decide))).mono ?_
  rw [show xput 4 2 [] 7 4 false = ([(7, 4)], 0) from by decide +kernel]
  rintro _ _ ⟨rfl, A2, L2, hX2, rfl⟩
  refine ⟨_, rfl, ?_⟩
  refine L_y rfl (y_move rfl) rfl ?_
  refine L_op rfl (op_call rfl rfl (fun a w => Try.call29 a w) rfl ?_)
  refine (FnS.sub (hsub_pick [0] rfl) (xput_s hX2 9 (by decide) 5 (by decide))).mono ?_
  rw [show xput 4 2 [(7, 4)] 9 5 false = ([(7, 4), (9, 5)], 0) from by decide +kernel]
  rintro _ _ ⟨rfl, A3, L3, hX3, rfl⟩
  refine ⟨_, rfl, ?_⟩
  refine L_y rfl (y_move rfl) rfl ?_
  refine L_op rfl (op_call rfl rfl (fun a w => Try.call29 a w) rfl ?_)
  refine (FnS.sub (hsub_pick [0] rfl) (xput_s hX3 3 (by decide) 6 (by decide))).mono ?_
  rw [show xput 4 2 [(7, 4), (9, 5)] 3 6 false = ([(3, 6), (7, 4), (9, 5)], 0) from by decide +kernel]
  rintro _ _ ⟨rfl, A4, L4, hX4, rfl⟩
  refine ⟨_, rfl, ?_⟩
  refine L_y rfl (y_assign rfl) rfl ?_
  refine L_y rfl (y_assign rfl) rfl ?_
  refine L_y rfl (y_assign rfl) rfl ?_
  refine L_nil ?_
  refine C_seq ?_
  refine C_region ?_
  refine L_y rfl (y_move rfl) rfl ?_
  refine L_op rfl (op_buildSlice (vs := [(0, _), (1, _), (2, _), (3, _)]) rfl Try.underlying66 sz_4 zl_4 rfl (by decide) (fill_cons (off := 0) (m := 1) (vs := [_]) rfl rfl rfl (Nat.le_of_ble_eq_true rfl) (fill_cons (off := 1) (m := 1) (vs := [_]) rfl rfl rfl (Nat.le_of_ble_eq_true rfl) (fill_cons (off := 2) (m := 1) (vs := [_]) rfl rfl rfl (Nat.le_of_ble_eq_true rfl) (fill_cons (off := 3) (m := 1) (vs := [_]) rfl rfl rfl (Nat.le_of_ble_eq_true rfl) rfl)))) rfl (fun B1 => ?_))
  refine L_op rfl (op_call rfl rfl (fun a w => Try.call74 a w) rfl ?_)
  refine used_s.mono ?_
  rintro _ _ ⟨ub, rfl, rfl⟩
  refine ⟨_, rfl, ?_⟩
  refine L_op rfl (op_call rfl rfl (fun a w => Try.call34 a w) rfl ?_)
  skip
  refine (FnS.sub (hsub_pick [0, 1] rfl) (victim_y hX4 (f := 94) (cap := [ptr ub]) (C := fun _ => [(ub, .cells [Value.slice (some ⟨B1, 0, none⟩) 4 4].toArray 66)]) (p := fun k => decide (0 ≤ (k : Int)) && ([false, true, true, false] : List Bool).getD (k : Int).toNat false) (fun a w => Try.call94 a w) (fun k hk H1 hs => used1_s (l := [false, true, true, false]) (sees 0 0 rfl) ((holds_slice (sees 0 0 rfl) (by decide) rfl).sub (hs.trans (HSub.drop _ _))) (by decide) k) (by decide))).mono ?_
  rw [show vic (fun k => decide (0 ≤ (k : Int)) && ([false, true, true, false] : List Bool).getD (k : Int).toNat false) (fun j => cnt18 4 2 [(3, 6), (7, 4), (9, 5)] (j : Int)) (4 : Int).toNat = some 2 from by decide +kernel]
  rintro _ _ ⟨rfl, rfl⟩
  refine ⟨_, rfl, ?_⟩
  refine L_y rfl (y_move rfl) rfl ?_
  refine L_y rfl (y_extract rfl rfl) rfl ?_
  refine L_y rfl (y_extract rfl rfl) rfl ?_
  refine L_y rfl (y_assign rfl) rfl ?_
  refine L_y rfl (y_assign rfl) rfl ?_
  refine L_nil ?_
  refine C_seq ?_
  refine C_region ?_
  refine L_y rfl (y_move rfl) rfl ?_
  refine L_y rfl (y_eqi rfl rfl) rfl ?_
  refine L_y rfl (y_move rfl) rfl ?_
  refine L_y rfl (y_move rfl) rfl ?_
  refine L_y rfl (y_eqi rfl rfl) rfl ?_
  refine L_y rfl (y_pick_t rfl rfl) rfl ?_
  refine L_y rfl (y_move rfl) rfl ?_
  refine L_y rfl (y_move rfl) rfl ?_
  refine L_y rfl (y_eqi rfl rfl) rfl ?_
  refine L_y rfl (y_pick_t rfl rfl) rfl ?_
  refine L_y rfl (y_move rfl) rfl ?_
  refine L_y rfl (y_move rfl) rfl ?_
  refine L_op rfl (op_call rfl rfl (fun a w => Try.call36 a w) rfl ?_)
  refine (FnS.sub (hsub_pick [1] rfl) (xlive_s hX4 1)).mono ?_
  rw [show cnt18 4 2 [(3, 6), (7, 4), (9, 5)] 1 = 2 from by decide +kernel]
  rintro _ _ ⟨rfl, rfl⟩
  refine ⟨_, rfl, ?_⟩
  refine L_y rfl (y_eqi rfl rfl) rfl ?_
  refine L_y rfl (y_pick_t rfl rfl) rfl ?_
  refine L_y rfl (y_move rfl) rfl ?_
  refine L_y rfl (y_move rfl) rfl ?_
  refine L_op rfl (op_call rfl rfl (fun a w => Try.call31 a w) rfl ?_)
  refine (FnS.sub (hsub_pick [0] rfl) (xnums_s hX4 1 (by decide) (by decide +kernel))).mono ?_
  rw [show xnums 4 2 [(3, 6), (7, 4), (9, 5)] 1 = [7, 9] from by decide +kernel]
  rintro _ _ ⟨gn, hgn, rfl, rfl⟩
  refine ⟨_, rfl, ?_⟩
  cases gn with
  | none => exact slOk_none hgn (by decide)
  | some gn => ?_
  refine L_op rfl (op_buildSlice (vs := [(0, _), (1, _)]) rfl Try.underlying63 sz_58 zl_58 rfl (by decide) (fill_cons (off := 0) (m := 1) (vs := [_]) rfl rfl rfl (Nat.le_of_ble_eq_true rfl) (fill_cons (off := 1) (m := 1) (vs := [_]) rfl rfl rfl (Nat.le_of_ble_eq_true rfl) rfl)) rfl (fun B2 => ?_))
  refine L_op rfl (op_call rfl rfl (fun a w => Try.call30 a w) rfl ?_)
  refine (same18_s (la := [7, 9]) (lb := [7, 9]) (holds_slice (sees 1 0 rfl) (by simp [us]) (by simp [us])) (holds_slice (sees 0 0 rfl) (by decide) rfl) (by decide)).mono ?_
  rintro _ _ ⟨rfl, e⟩
  obtain rfl := e.symm
  clear e
  refine ⟨_, rfl, ?_⟩
  refine L_y rfl (y_pick_t rfl rfl) rfl ?_
  refine L_y rfl (y_move rfl) rfl ?_
  refine L_y rfl (y_move rfl) rfl ?_
  refine L_y rfl (y_eqi rfl rfl) rfl ?_
  refine L_y rfl (y_pick_t rfl rfl) rfl ?_
  refine L_y rfl (y_move rfl) rfl ?_
  refine L_y rfl (y_move rfl) rfl ?_
  refine L_y rfl (y_pick_t rfl rfl) rfl ?_
  refine L_y rfl (y_move rfl) rfl ?_
  refine L_y rfl (y_move rfl) rfl ?_
  refine L_op rfl (op_call rfl rfl (fun a w => Try.call29 a w) rfl ?_)
  refine (FnS.sub (hsub_pick [2] rfl) (xput_s hX4 7 (by decide) 2 (by decide))).mono ?_
  rw [show xput 4 2 [(3, 6), (7, 4), (9, 5)] 7 2 false = ([(3, 6), (7, 4), (9, 5)], 5) from by decide +kernel]
  rintro _ _ ⟨rfl, A5, L5, hX5, rfl⟩
  refine ⟨_, rfl, ?_⟩
  refine L_y rfl (y_eqi rfl rfl) rfl ?_
  refine L_y rfl (y_pick_t rfl rfl) rfl ?_
  refine L_y rfl (y_assign rfl) rfl ?_
  refine L_nil ?_
  refine C_ret ?_
  refine B_ret (rv_tmp rfl rv_nil) (hsub (.cons _ (.cons _ (.cons _ (.cons _ (.cons _ (.refl _))))))) ?_
  exact ⟨rfl, rfl⟩

end Go.Proofs.Ytaeooiogjhkjfaa

/- A slice of deeds on numbers (own work). -/
set_option linter.unusedVariables false
set_option linter.unusedSimpArgs false
namespace Go.Sl
abbrev A18 := UInt8 × UInt64 × Int
abbrev a8c (x : A18) : List Value := [.int .u8 (x.1.toNat : Int), .int .u64 (x.2.1.toNat : Int), .int .i64 x.2.2]
def a8s (l : List A18) : List Value := (l.map a8c).flatten
theorem a8s_len (l : List A18) : (a8s l).length = l.length * 3 := by
  induction l with
  | nil => rfl
  | cons x l ih => simp only [a8s, List.map_cons, List.flatten_cons, List.length_append, List.length_cons] at ih ⊢; rw [ih]; simp; omega
theorem a8s_get : ∀ {l : List A18} {i : Nat} {a : A18}, l[i]? = some a → ((a8s l).drop (i * 3)).take 3 = a8c a
  | [], i, a, h => by simp at h
  | b :: l, 0, a, h => by
    simp at h; subst h
    simp only [a8s, List.map_cons, List.flatten_cons, Nat.zero_mul, List.drop_zero]
    rfl
  | b :: l, i + 1, a, h => by
    simp only [List.getElem?_cons_succ] at h
    have := a8s_get h
    simp only [a8s, List.map_cons, List.flatten_cons] at this ⊢
    rw [show (i + 1) * 3 = 3 + i * 3 by omega, ← List.drop_drop]
    exact this
theorem a8_at {l : List Value} {off i : Nat} {al : List A18} {a : A18} (hv : (l.drop off).take (a8s al).length = a8s al) (hi : al[i]? = some a) : (l.drop (off + i * 3)).take 3 = a8c a := by
  have hlt := (List.getElem?_eq_some_iff.1 hi).1
  rw [← a8s_get hi, ← hv, List.drop_take, List.take_take, List.drop_drop, a8s_len]
  congr 1
  omega
theorem xput_len {segs size : Int} {l : Xl} (hs : Xs l) (n : Nat) (a : Int) (mv : Bool) : (xput segs size l n a mv).1.length ≤ l.length + 1 := by
  unfold xput
  split
  · simp
  · split
    · simp
    · cases hf : xfind l n with
      | some b =>
        simp only
        split
        · have := xdel_len hs hf
          simp only [xins_len]; omega
        · simp
      | none =>
        simp only
        split
        · simp
        · simp [xins_len]
theorem xdrop_len {l : Xl} (n : Nat) : (xdrop l n).1.length ≤ l.length := by
  unfold xdrop
  split
  · exact List.length_filter_le _ _
  · exact Nat.le_refl _
theorem dd_len {segs size : Int} {l : Xl} (hs : Xs l) (d n : Nat) (a : Int) : (dd segs size l d n a).1.length ≤ l.length + 1 := by
  unfold dd
  split
  · exact xput_len hs n a true
  · split
    · have := xdrop_len (l := l) n; omega
    · exact xput_len hs n a false
theorem chk0 {segs size : Int} : chkE segs size = 0 ↔ mayG segs size = true := by unfold chkE; cases mayG segs size <;> simp
theorem vic_some {p : Nat → Bool} {c : Nat → Nat} {k : Nat} (h : p k = true) : (vic p c (k + 1)).isSome = true := by
  rw [vic]
  cases vic p c k with
  | none => simp [h]
  | some b => simp only; split <;> rfl
theorem getD_lt {l : List Bool} {v : Nat} (h : l.getD v false = true) : v < l.length := by
  rcases Nat.lt_or_ge v l.length with h1 | h1
  · exact h1
  · rw [List.getD_eq_getElem?_getD, List.getElem?_eq_none h1] at h; cases h
end Go.Sl

/- walks (own work; the walks' lines by a program of this repo). -/
set_option linter.unusedVariables false
set_option linter.unusedSimpArgs false
set_option maxRecDepth 20000
namespace Go.Proofs.Ytaeooiogjhkjfaa
open Go.Sl
attribute [local irreducible] BodyQ WpC WpL WpS WpH OpW FnS


theorem least1_s {w0 : World} {H : Hp} {pi : Option Addr} {ci ba bs_ bi : Nat} {li : List Bool} {segs size : Int} (hS : Sees (fun w => St w0 w H) bs_ (.cells [Value.int .i64 segs, .int .i64 size].toArray 51)) (hB : Sees (fun w => St w0 w H) bi (.cells [Value.slice pi li.length ci].toArray 66)) (hI : Holds w0 H pi (bos li)) (hl : li.length < 1000000) (k : Nat) (hk : (k : Int) < segs) : FnS Try.prog w0 35 #[.int .i64 (k : Int), ptr ba, ptr bs_, ptr bi] ([(ba, .cells [Value.bool true].toArray 4)] :: H) (fun e H' => e = .returned (.bool (li.getD k false)) ∧ H' = [(ba, .cells [Value.bool true].toArray 4)] :: H) := by
  refine FnS_intro (n := 31) (rs := [.tmp 5]) (vs := [.int .i64 (k : Int), ptr ba, ptr bs_, ptr bi]) Try.func35 rfl Try.ntmps35 rfl rfl ?_
  refine C_seq ?_
  refine C_region ?_
  refine L_y rfl (y_assign rfl) rfl ?_
  refine L_nil ?_
  refine C_seq ?_
  refine C_region ?_
  refine L_y rfl (y_load rfl ag_4 (sees 0 0 rfl) rfl) rfl ?_
  refine L_y rfl (y_move rfl) rfl ?_
  refine L_y rfl (y_move rfl) rfl ?_
  refine L_y rfl (y_geq rfl rfl) rfl ?_
  refine L_y rfl (y_pick_t rfl rfl) rfl ?_
  refine L_y rfl (y_move rfl) rfl ?_
  refine L_case 11 rfl (fun hg1_6 => ?_) (fun hg1_6 => ?_)
  · skip
    refine L_y rfl (y_move rfl) rfl ?_
    refine L_y rfl (y_fieldAddr rfl fl_51_0) rfl ?_
    refine L_y rfl (y_load rfl ag_3 (hS.up) rfl) rfl ?_
    refine L_y rfl (y_lss rfl rfl) rfl ?_
    refine L_y rfl (y_pick_t rfl rfl) rfl ?_
    refine L_op rfl (op_store1 0 0 rfl rfl rfl sz_4 rfl (Nat.le_of_ble_eq_true rfl) ?_)
    refine L_nil ?_
    rw [show decide ((k : Int) < segs) = true from decide_eq_true hk]
    refine C_seq ?_
    refine C_region ?_
    refine L_y rfl (y_move rfl) rfl ?_
    refine L_y rfl (y_geq rfl rfl) rfl ?_
    refine L_y rfl (y_move rfl) rfl ?_
    refine L_case 19 rfl (fun hg2_3 => ?_) (fun hg2_3 => ?_)
    · skip
      refine L_y rfl (y_move rfl) rfl ?_
      refine L_y rfl (y_load rfl ag_66 (hB.up) rfl) rfl ?_
      refine L_y rfl (y_lenS rfl rfl Try.underlying66) rfl ?_
      refine L_y rfl (y_lss rfl rfl) rfl ?_
      refine L_y rfl (y_pick_t rfl rfl) rfl ?_
      refine L_y rfl (y_move rfl) rfl ?_
      refine L_case 25 rfl (fun hg2_9 => ?_) (fun hg2_9 => ?_)
      · have h1 : k < li.length := by have := of_decide_eq_true hg2_9; omega
        obtain ⟨b2, o2, l2, T2, fr2, rfl, hs2, hle2, hv2⟩ := hI (by rw [bos_len]; omega)
        rw [bos_len] at hle2
        refine L_y rfl (y_load rfl ag_66 (hB.up) rfl) rfl ?_
        refine L_y rfl (y_move rfl) rfl ?_
        refine L_y rfl (y_indexS rfl rfl Try.underlying66 sz_4 (by omega) (by omega) (show _ = o2 + k * 1 from by simp)) rfl ?_
        refine L_y rfl (y_load rfl ag_4 (hs2.up) (bos_hat hv2 h1)) rfl ?_
        refine L_y rfl (y_pick_t rfl rfl) rfl ?_
        refine L_y rfl (y_assign rfl) rfl ?_
        refine L_nil ?_
        refine C_ret ?_
        refine B_ret (rv_tmp rfl rv_nil) ((hsub (.cons_cons _ (.refl _))).trans (hsub_pick [0] rfl)) ?_
        first
        | exact ⟨rfl, rfl⟩
        | exact ⟨congrArg (fun b => Ending.returned (Value.bool b)) h2.symm, rfl⟩
      · have h1 : ¬ k < li.length := by have := of_decide_eq_false hg2_9; omega
        have h2 : li.getD k false = false := by rw [List.getD_eq_getElem?_getD, List.getElem?_eq_none (Nat.le_of_not_lt h1)]; rfl
        refine L_skip rfl rfl ?_
        refine L_skip rfl rfl ?_
        refine L_skip rfl rfl ?_
        refine L_skip rfl rfl ?_
        refine L_y rfl (y_pick_f rfl rfl) rfl ?_
        refine L_y rfl (y_assign rfl) rfl ?_
        refine L_nil ?_
        refine C_ret ?_
        refine B_ret (rv_tmp rfl rv_nil) ((hsub (.cons_cons _ (.refl _))).trans (hsub_pick [0] rfl)) ?_
        first
        | exact ⟨rfl, rfl⟩
        | exact ⟨congrArg (fun b => Ending.returned (Value.bool b)) h2.symm, rfl⟩
    · exact absurd hg2_3 (by simp)
  · exact absurd hg1_6 (by simp)

theorem least_40 {w0 : World} {H : Hp} {pa pi : Option Addr} {ca ci : Nat} {ll : List A18} {li : List Bool} (hA : Holds w0 H pa (a8s ll)) (hI : Holds w0 H pi (bos li)) (segs size : Int) (hl : 40 < ll.length) : FnS Try.prog w0 5 #[shV segs size, .slice pa ll.length ca, .slice pi li.length ci] H (fun e H' => e = .returned (.bool true)) := by
  refine FnS_intro (n := 117) (rs := [.tmp 6]) (vs := [shV segs size, .slice pa ll.length ca, .slice pi li.length ci]) Try.func5 rfl Try.ntmps5 rfl rfl ?_
  refine C_seq ?_
  refine C_region ?_
  refine L_op rfl (op_box rfl rfl rfl (fun B1 => ?_))
  refine L_op rfl (op_box rfl rfl rfl (fun B2 => ?_))
  refine L_y rfl (y_assign rfl) rfl ?_
  refine L_nil ?_
  refine C_seq ?_
  refine C_seq ?_
  refine C_region ?_
  refine L_op rfl (op_call rfl rfl (fun a w => Try.call26 a w) rfl ?_)
  refine (awake18_s).mono ?_
  rintro _ _ ⟨rfl, e⟩
  obtain rfl := e.symm
  clear e
  refine ⟨_, rfl, ?_⟩
  refine L_y rfl (y_not rfl) rfl ?_
  refine L_y rfl (y_move rfl) rfl ?_
  refine L_y rfl (y_move rfl) rfl ?_
  refine L_y rfl (y_lenS rfl rfl Try.underlying52) rfl ?_
  refine L_y rfl (y_gtr rfl rfl) rfl ?_
  refine L_y rfl (y_pick_f rfl rfl) rfl ?_
  refine L_y rfl (y_move rfl) rfl ?_
  refine L_case 21 rfl (fun hg1_8 => ?_) (fun hg1_8 => ?_)
  · skip
    refine L_skip rfl rfl ?_
    refine L_skip rfl rfl ?_
    refine L_skip rfl rfl ?_
    refine L_y rfl (y_pick_t rfl rfl) rfl ?_
    refine L_y rfl (y_move rfl) rfl ?_
    refine L_skip rfl rfl ?_
    refine L_skip rfl rfl ?_
    refine L_skip rfl rfl ?_
    refine L_y rfl (y_pick_t rfl rfl) rfl ?_
    refine L_nil ?_
    refine C_cond_t rfl ?_
    refine C_seq ?_
    refine C_region ?_
    refine L_op rfl (op_call rfl rfl (fun a w => Try.call26 a w) rfl ?_)
    refine (awake18_s).mono ?_
    rintro _ _ ⟨rfl, e⟩
    obtain rfl := e.symm
    clear e
    refine ⟨_, rfl, ?_⟩
    refine L_y rfl (y_assign rfl) rfl ?_
    refine L_nil ?_
    refine C_ret ?_
    refine B_ret (rv_tmp rfl rv_nil) (HSub.refl _) ?_
    rfl
  · exact absurd hg1_8 (by simp; omega)

theorem least_no {w0 : World} {H : Hp} {pa pi : Option Addr} {ca ci : Nat} {ll : List A18} {li : List Bool} (hA : Holds w0 H pa (a8s ll)) (hI : Holds w0 H pi (bos li)) (segs size : Int) (hl : ¬ 40 < ll.length) (hm : mayG segs size = false) : FnS Try.prog w0 5 #[shV segs size, .slice pa ll.length ca, .slice pi li.length ci] H (fun e H' => e = .returned (.bool true)) := by
  refine FnS_intro (n := 117) (rs := [.tmp 6]) (vs := [shV segs size, .slice pa ll.length ca, .slice pi li.length ci]) Try.func5 rfl Try.ntmps5 rfl rfl ?_
  refine C_seq ?_
  refine C_region ?_
  refine L_op rfl (op_box rfl rfl rfl (fun B1 => ?_))
  refine L_op rfl (op_box rfl rfl rfl (fun B2 => ?_))
  refine L_y rfl (y_assign rfl) rfl ?_
  refine L_nil ?_
  refine C_seq ?_
  refine C_seq ?_
  refine C_region ?_
  refine L_op rfl (op_call rfl rfl (fun a w => Try.call26 a w) rfl ?_)
  refine (awake18_s).mono ?_
  rintro _ _ ⟨rfl, e⟩
  obtain rfl := e.symm
  clear e
  refine ⟨_, rfl, ?_⟩
  refine L_y rfl (y_not rfl) rfl ?_
  refine L_y rfl (y_move rfl) rfl ?_
  refine L_y rfl (y_move rfl) rfl ?_
  refine L_y rfl (y_lenS rfl rfl Try.underlying52) rfl ?_
  refine L_y rfl (y_gtr rfl rfl) rfl ?_
  refine L_y rfl (y_pick_f rfl rfl) rfl ?_
  refine L_y rfl (y_move rfl) rfl ?_
  refine L_case 21 rfl (fun hg1_8 => ?_) (fun hg1_8 => ?_)
  · exact absurd hg1_8 (by simp; omega)
  · skip
    refine L_y rfl (y_loadA rfl ag_51 sz_51 (sees 1 0 rfl) (Nat.le_of_ble_eq_true rfl) rfl) rfl ?_
    refine L_op rfl (op_call rfl rfl (fun a w => Try.call27 a w) rfl ?_)
    refine (check_s segs size).mono ?_
    rintro _ _ ⟨rfl, e⟩
    obtain rfl := e.symm
    clear e
    rw [show chkE segs size = 2 from by unfold chkE; rw [hm]; rfl]
    refine ⟨_, rfl, ?_⟩
    refine L_y rfl (y_nei rfl rfl) rfl ?_
    refine L_y rfl (y_pick_f rfl rfl) rfl ?_
    refine L_y rfl (y_move rfl) rfl ?_
    refine L_skip rfl rfl ?_
    refine L_skip rfl rfl ?_
    refine L_skip rfl rfl ?_
    refine L_y rfl (y_pick_t rfl rfl) rfl ?_
    refine L_nil ?_
    refine C_cond_t rfl ?_
    refine C_seq ?_
    refine C_region ?_
    refine L_op rfl (op_call rfl rfl (fun a w => Try.call26 a w) rfl ?_)
    refine (awake18_s).mono ?_
    rintro _ _ ⟨rfl, e⟩
    obtain rfl := e.symm
    clear e
    refine ⟨_, rfl, ?_⟩
    refine L_y rfl (y_assign rfl) rfl ?_
    refine L_nil ?_
    refine C_ret ?_
    refine B_ret (rv_tmp rfl rv_nil) (HSub.refl _) ?_
    rfl

theorem least_100 {w0 : World} {H : Hp} {pa pi : Option Addr} {ca ci : Nat} {ll : List A18} {li : List Bool} (hA : Holds w0 H pa (a8s ll)) (hI : Holds w0 H pi (bos li)) (segs size : Int) (hl : ¬ 40 < ll.length) (hm : mayG segs size = true) (hi : 100 < li.length) : FnS Try.prog w0 5 #[shV segs size, .slice pa ll.length ca, .slice pi li.length ci] H (fun e H' => e = .returned (.bool true)) := by
  refine FnS_intro (n := 117) (rs := [.tmp 6]) (vs := [shV segs size, .slice pa ll.length ca, .slice pi li.length ci]) Try.func5 rfl Try.ntmps5 rfl rfl ?_
  refine C_seq ?_
  refine C_region ?_
  refine L_op rfl (op_box rfl rfl rfl (fun B1 => ?_))
  refine L_op rfl (op_box rfl rfl rfl (fun B2 => ?_))
  refine L_y rfl (y_assign rfl) rfl ?_
  refine L_nil ?_
  refine C_seq ?_
  refine C_seq ?_
  refine C_region ?_
  refine L_op rfl (op_call rfl rfl (fun a w => Try.call26 a w) rfl ?_)
  refine (awake18_s).mono ?_
  rintro _ _ ⟨rfl, e⟩
  obtain rfl := e.symm
  clear e
  refine ⟨_, rfl, ?_⟩
  refine L_y rfl (y_not rfl) rfl ?_
  refine L_y rfl (y_move rfl) rfl ?_
  refine L_y rfl (y_move rfl) rfl ?_
  refine L_y rfl (y_lenS rfl rfl Try.underlying52) rfl ?_
  refine L_y rfl (y_gtr rfl rfl) rfl ?_
  refine L_y rfl (y_pick_f rfl rfl) rfl ?_
  refine L_y rfl (y_move rfl) rfl ?_
  refine L_case 21 rfl (fun hg1_8 => ?_) (fun hg1_8 => ?_)
  · exact absurd hg1_8 (by simp; omega)
  · skip
    refine L_y rfl (y_loadA rfl ag_51 sz_51 (sees 1 0 rfl) (Nat.le_of_ble_eq_true rfl) rfl) rfl ?_
    refine L_op rfl (op_call rfl rfl (fun a w => Try.call27 a w) rfl ?_)
    refine (check_s segs size).mono ?_
    rintro _ _ ⟨rfl, e⟩
    obtain rfl := e.symm
    clear e
    rw [show chkE segs size = 0 from chk0.2 hm]
    refine ⟨_, rfl, ?_⟩
    refine L_y rfl (y_nei rfl rfl) rfl ?_
    refine L_y rfl (y_pick_f rfl rfl) rfl ?_
    refine L_y rfl (y_move rfl) rfl ?_
    refine L_y rfl (y_load rfl ag_66 (sees 0 0 rfl) rfl) rfl ?_
    refine L_y rfl (y_lenS rfl rfl Try.underlying66) rfl ?_
    refine L_y rfl (y_gtr rfl rfl) rfl ?_
    refine L_y rfl (y_pick_f rfl rfl) rfl ?_
    refine L_nil ?_
    refine C_cond rfl (fun hc0 => ?_) (fun hc0 => absurd hc0 (by simp; omega))
    refine C_seq ?_
    refine C_region ?_
    refine L_op rfl (op_call rfl rfl (fun a w => Try.call26 a w) rfl ?_)
    refine (awake18_s).mono ?_
    rintro _ _ ⟨rfl, e⟩
    obtain rfl := e.symm
    clear e
    refine ⟨_, rfl, ?_⟩
    refine L_y rfl (y_assign rfl) rfl ?_
    refine L_nil ?_
    refine C_ret ?_
    refine B_ret (rv_tmp rfl rv_nil) (HSub.refl _) ?_
    rfl

set_option maxHeartbeats 4000000 in

theorem least_y {w0 : World} {H : Hp} {pa pi : Option Addr} {ca ci : Nat} {ll : List A18} {li : List Bool} (hA : Holds w0 H pa (a8s ll)) (hI : Holds w0 H pi (bos li)) (segs size : Int) (hl : ¬ 40 < ll.length) (hm : mayG segs size = true) (hi : ¬ 100 < li.length) : FnS Try.prog w0 5 #[shV segs size, .slice pa ll.length ca, .slice pi li.length ci] H (fun e H' => e = .returned (.bool true)) := by
  obtain ⟨g1, g2, g3, g4⟩ := mayG_spec hm
  refine FnS_intro (n := 117) (rs := [.tmp 6]) (vs := [shV segs size, .slice pa ll.length ca, .slice pi li.length ci]) Try.func5 rfl Try.ntmps5 rfl rfl ?_
  refine C_seq ?_
  refine C_region ?_
  refine L_op rfl (op_box rfl rfl rfl (fun B1 => ?_))
  refine L_op rfl (op_box rfl rfl rfl (fun B2 => ?_))
  refine L_y rfl (y_assign rfl) rfl ?_
  refine L_nil ?_
  refine C_seq ?_
  refine C_seq ?_
  refine C_region ?_
  refine L_op rfl (op_call rfl rfl (fun a w => Try.call26 a w) rfl ?_)
  refine (awake18_s).mono ?_
  rintro _ _ ⟨rfl, e⟩
  obtain rfl := e.symm
  clear e
  refine ⟨_, rfl, ?_⟩
  refine L_y rfl (y_not rfl) rfl ?_
  refine L_y rfl (y_move rfl) rfl ?_
  refine L_y rfl (y_move rfl) rfl ?_
  refine L_y rfl (y_lenS rfl rfl Try.underlying52) rfl ?_
  refine L_y rfl (y_gtr rfl rfl) rfl ?_
  refine L_y rfl (y_pick_f rfl rfl) rfl ?_
  refine L_y rfl (y_move rfl) rfl ?_
  refine L_case 21 rfl (fun hg1_8 => ?_) (fun hg1_8 => ?_)
  · exact absurd hg1_8 (by simp; omega)
  · skip
    refine L_y rfl (y_loadA rfl ag_51 sz_51 (sees 1 0 rfl) (Nat.le_of_ble_eq_true rfl) rfl) rfl ?_
    refine L_op rfl (op_call rfl rfl (fun a w => Try.call27 a w) rfl ?_)
    refine (check_s segs size).mono ?_
    rintro _ _ ⟨rfl, e⟩
    obtain rfl := e.symm
    clear e
    rw [show chkE segs size = 0 from chk0.2 hm]
    refine ⟨_, rfl, ?_⟩
    refine L_y rfl (y_nei rfl rfl) rfl ?_
    refine L_y rfl (y_pick_f rfl rfl) rfl ?_
    refine L_y rfl (y_move rfl) rfl ?_
    refine L_y rfl (y_load rfl ag_66 (sees 0 0 rfl) rfl) rfl ?_
    refine L_y rfl (y_lenS rfl rfl Try.underlying66) rfl ?_
    refine L_y rfl (y_gtr rfl rfl) rfl ?_
    refine L_y rfl (y_pick_f rfl rfl) rfl ?_
    refine L_nil ?_
    refine C_cond rfl (fun hc0 => absurd hc0 (by simp; omega)) (fun hc0 => ?_)
    refine C_skip ?_
    refine C_seq ?_
    refine C_region ?_
    refine L_y rfl (y_loadA rfl ag_51 sz_51 (sees 1 0 rfl) (Nat.le_of_ble_eq_true rfl) rfl) rfl ?_
    refine L_op rfl (op_call rfl rfl (fun a w => Try.call28 a w) rfl ?_)
    refine (xnew_s segs size).mono ?_
    rintro _ _ ⟨o1, rfl, rfl⟩
    have hX1 := Xm.new segs size
    refine ⟨_, rfl, ?_⟩
    refine L_y rfl (y_assign rfl) rfl ?_
    refine L_nil ?_
    refine C_seq ?_
    refine C_seq ?_
    refine C_region ?_
    refine L_y rfl (y_assign rfl) rfl ?_
    refine L_nil ?_
    refine C_block ?_
    refine C_loop (ι := Xl × Gm × Gm × Nat) (fun i => [(3, ptr B1), (7, ptr o1.b), (8, .int .i64 (i.2.2.2 : Int)), (1, .slice pa ll.length ca), (5, ptr B2)]) (fun i => o1.seg 129 segs size i.2.1 i.2.2.1 :: [(B1, .cells [Value.int .i64 segs, .int .i64 size].toArray 51)] :: [(B2, .cells [Value.slice pi li.length ci].toArray 66)] :: H) (fun i => Xm segs size i.1 i.2.1 i.2.2.1 ∧ i.1.length ≤ i.2.2.2 ∧ i.2.2.2 ≤ ll.length) (fun i => ll.length - i.2.2.2) ([], _, _, 0) ⟨hX1, Nat.le_refl _, Nat.zero_le _⟩ ⟨rfl, rfl, rfl, rfl, rfl, trivial⟩ ((hsub (.cons_cons _ (.cons_cons _ (.cons_cons _ (.refl _))))).trans (hsub_pick [0, 1, 0] rfl)) (fun i hi => ?_)
    obtain ⟨x, A, L, i⟩ := i
    obtain ⟨hX, hxl, hi⟩ := hi
    try simp only at hX hxl hi
    try dsimp only
    refine C_seq ?_
    refine C_seq ?_
    refine C_region ?_
    refine L_y rfl (y_move rfl) rfl ?_
    refine L_y rfl (y_move rfl) rfl ?_
    refine L_y rfl (y_lenS rfl rfl Try.underlying52) rfl ?_
    refine L_y rfl (y_lss rfl rfl) rfl ?_
    refine L_nil ?_
    refine C_cond rfl (fun hc1 => ?_) (fun hc1 => ?_)
    · replace hc1 : i < ll.length := by have := of_decide_eq_true hc1; omega
      obtain ⟨c, hx⟩ : ∃ c, ll[i]? = some c := ⟨_, List.getElem?_eq_getElem hc1⟩
      obtain ⟨b1, o1, l1, T1, fr1, rfl, hs1, hle1, hv1⟩ := hA (by rw [a8s_len]; omega)
      rw [a8s_len] at hle1
      refine C_skip ?_
      refine C_seq ?_
      refine C_block ?_
      refine C_regionH ([(B1, .cells [Value.int .i64 segs, .int .i64 size].toArray 51)] :: H) (by kernel_rfl) ?_
      refine H_y 0 rfl (by kernel_rfl) (by kernel_rfl) (by kernel_rfl) (((hsub (.cons_cons _ (.cons _ (.cons _ (.refl _))))).trans (hsub_pick [1] rfl))) rfl (y_move rfl) rfl ?_
      refine H_y 1 rfl (by kernel_rfl) (by kernel_rfl) (by kernel_rfl) (((hsub (.cons_cons _ (.cons _ (.cons _ (.refl _))))).trans (hsub_pick [1] rfl))) rfl (y_loadA rfl ag_51 sz_51 (sees 0 0 rfl) (Nat.le_of_ble_eq_true rfl) rfl) rfl ?_
      refine H_y 2 rfl (by kernel_rfl) (by kernel_rfl) (by kernel_rfl) (((hsub (.cons_cons _ (.cons _ (.cons _ (.refl _))))).trans (hsub_pick [1] rfl))) rfl (y_move rfl) rfl ?_
      refine H_y 3 rfl (by kernel_rfl) (by kernel_rfl) (by kernel_rfl) (((hsub (.cons_cons _ (.cons _ (.cons _ (.refl _))))).trans (hsub_pick [1] rfl))) rfl (y_move rfl) rfl ?_
      refine H_y 4 rfl (by kernel_rfl) (by kernel_rfl) (by kernel_rfl) (((hsub (.cons_cons _ (.cons _ (.cons _ (.refl _))))).trans (hsub_pick [1] rfl))) rfl (y_indexS rfl rfl Try.underlying52 sz_60 (by omega) (by omega) (show _ = o1 + i * 3 from by simp)) rfl ?_
      refine H_y 5 rfl (by kernel_rfl) (by kernel_rfl) (by kernel_rfl) (((hsub (.cons_cons _ (.cons _ (.cons _ (.refl _))))).trans (hsub_pick [1] rfl))) rfl (y_loadA rfl ag_60 sz_60 (hs1.up) (by omega) (a8_at hv1 hx)) rfl ?_
      refine H_one 6 rfl (by kernel_rfl) rfl (op_call rfl rfl (fun a w => Try.call33 a w) rfl ?_)
      refine (FnS.sub hsub_nil1 (done18_s (g := none) hX List.Pairwise.nil ⟨rfl, rfl⟩ (by omega) (by decide) c.1.toNat c.2.1.toNat c.1.toNat_lt c.2.1.toNat_lt c.2.2)).mono ?_
      rintro _ _ ⟨A2, L2, g2, hX2, _, rfl, rfl⟩
      refine ⟨_, rfl, ?_⟩
      refine ⟨((hsub (.cons_cons _ (.cons _ (.cons _ (.cons _ (.refl _)))))).trans (hsub_pick [2] rfl)), ?_⟩
      refine H_y 7 rfl (by kernel_rfl) (by kernel_rfl) (by kernel_rfl) (((hsub (.cons_cons _ (.cons _ (.cons _ (.cons _ (.refl _)))))).trans (hsub_pick [2] rfl))) rfl (y_move rfl) rfl ?_
      refine H_y 8 rfl (by kernel_rfl) (by kernel_rfl) (by kernel_rfl) (((hsub (.cons_cons _ (.cons _ (.cons _ (.cons _ (.refl _)))))).trans (hsub_pick [2] rfl))) rfl (y_extract rfl rfl) rfl ?_
      refine H_y 9 rfl (by kernel_rfl) (by kernel_rfl) (by kernel_rfl) (((hsub (.cons_cons _ (.cons _ (.cons _ (.cons _ (.refl _)))))).trans (hsub_pick [2] rfl))) rfl (y_extract rfl rfl) rfl ?_
      refine H_y 10 rfl (by kernel_rfl) (by kernel_rfl) (by kernel_rfl) (((hsub (.cons_cons _ (.cons _ (.cons _ (.cons _ (.refl _)))))).trans (hsub_pick [2] rfl))) rfl (y_extract rfl rfl) rfl ?_
      refine H_done (by kernel_rfl) ?_
      refine C_region ?_
      refine L_y rfl (y_move rfl) rfl ?_
      refine L_y rfl (y_add rfl rfl (show _ = ((i + 1 : Nat) : Int) from by rw [wi64 (by omega) (by omega)]; omega)) rfl ?_
      refine L_y rfl (y_assign rfl) rfl ?_
      refine L_nil ?_
      exact ⟨(_, _, _, i + 1), ⟨hX2, Nat.le_trans (dd_len hX.s _ _ _) (Nat.succ_le_succ hxl), by simp only; omega⟩, by simp only; omega, ⟨rfl, rfl, rfl, rfl, rfl, trivial⟩, ((hsub (.cons_cons _ (.cons_cons _ (.cons_cons _ (.cons _ (.refl _)))))).trans (hsub_pick [0, 1, 1] rfl))⟩
    · skip
      refine C_exit ?_
      refine C_seq ?_
      refine C_region ?_
      refine L_op rfl (op_alloc zl_4 rfl (fun B3 => ?_))
      refine L_op rfl (op_store1 0 0 rfl rfl rfl sz_4 rfl (Nat.le_of_ble_eq_true rfl) ?_)
      refine L_nil ?_
      refine C_seq ?_
      refine C_region ?_
      refine L_y rfl (y_move rfl) rfl ?_
      refine L_y rfl (y_makeFunc rfl rfl) rfl ?_
      refine L_op rfl (op_call rfl rfl (fun a w => Try.call34 a w) rfl ?_)
      refine (FnS.sub (hsub_pick [0, 0] rfl) (victim_y hX (f := 35) (cap := [ptr B3, ptr B1, ptr B2]) (C := fun _ => [(B3, .cells [Value.bool true].toArray 4)]) (p := (fun k => li.getD k false)) (fun a w => Try.call35 a w) (fun k hk H1 hs => least1_s (pi := pi) (ci := ci) (li := li) (segs := segs) (size := size) (Sees.sub (by exact sees 0 0 rfl) hs) (Sees.sub (by exact sees 1 0 rfl) hs) (hI.sub (HSub.trans (by exact hsub (.cons _ (.cons _ (.refl _)))) hs)) (by omega) k hk) hm)).mono ?_
      rintro _ _ ⟨rfl, rfl⟩
      refine ⟨_, rfl, ?_⟩
      refine L_y rfl (y_move rfl) rfl ?_
      refine L_y rfl (y_extract rfl rfl) rfl ?_
      refine L_y rfl (y_extract rfl rfl) rfl ?_
      refine L_y rfl (y_assign rfl) rfl ?_
      refine L_y rfl (y_assign rfl) rfl ?_
      refine L_nil ?_
      refine C_seq ?_
      refine C_region ?_
      refine L_y rfl (y_assign rfl) rfl ?_
      refine L_nil ?_
      refine C_seq ?_
      refine C_seq ?_
      refine C_region ?_
      refine L_y rfl (y_fieldAddr rfl fl_51_0) rfl ?_
      refine L_y rfl (y_load rfl ag_3 (sees 2 0 rfl) rfl) rfl ?_
      refine L_y rfl (y_move rfl) rfl ?_
      refine L_nil ?_
      refine C_block ?_
      refine C_loop (ι := Nat) (fun k => [(3, ptr B1), (5, ptr B2), (7, ptr o1.b), (9, ptr B3), (10, .int .i64 (((vic (fun k => li.getD k false) (fun j => cnt18 segs size x (j : Int)) segs.toNat).getD 0 : Nat) : Int)), (11, .bool (vic (fun k => li.getD k false) (fun j => cnt18 segs size x (j : Int)) segs.toNat).isSome), (12, .bool (vic (fun k => li.getD k false) (fun j => cnt18 segs size x (j : Int)) k).isSome), (58, .int .i64 segs), (59, .int .i64 (k : Int))]) (fun k => [(B3, .cells [Value.bool true].toArray 4)] :: o1.seg 129 segs size A L :: [(B1, .cells [Value.int .i64 segs, .int .i64 size].toArray 51)] :: [(B2, .cells [Value.slice pi li.length ci].toArray 66)] :: H) (fun k => (k : Int) ≤ segs) (fun k => segs.toNat - k) 0 (by omega) ⟨rfl, rfl, rfl, rfl, rfl, rfl, rfl, rfl, rfl, trivial⟩ ((hsub (.cons_cons _ (.cons_cons _ (.cons_cons _ (.cons_cons _ (.refl _)))))).trans (hsub_pick [0, 0, 0, 0] rfl)) (fun k hk => ?_)
      skip
      refine C_seq ?_
      refine C_region ?_
      refine L_y rfl (y_lss rfl rfl) rfl ?_
      refine L_nil ?_
      refine C_seq ?_
      refine C_cond rfl (fun hc2 => ?_) (fun hc2 => ?_)
      · replace hc2 : (k : Int) < segs := of_decide_eq_true hc2
        refine C_skip ?_
        refine C_seq ?_
        refine C_block ?_
        refine C_seq ?_
        refine C_region ?_
        refine L_y rfl (y_move rfl) rfl ?_
        refine L_y rfl (y_assign rfl) rfl ?_
        refine L_nil ?_
        refine C_seq ?_
        refine C_seq ?_
        refine C_region ?_
        refine L_y rfl (y_move rfl) rfl ?_
        refine L_y rfl (y_load rfl ag_66 (sees 3 0 rfl) rfl) rfl ?_
        refine L_y rfl (y_lenS rfl rfl Try.underlying66) rfl ?_
        refine L_y rfl (y_geq rfl rfl) rfl ?_
        refine L_y rfl (y_move rfl) rfl ?_
        refine L_case 66 rfl (fun hg14_5 => ?_) (fun hg14_5 => ?_)
        · have hpk : li.getD k false = false := by have h0 := of_decide_eq_true hg14_5; rw [List.getD_eq_getElem?_getD, List.getElem?_eq_none (by omega)]; rfl
          refine L_skip rfl rfl ?_
          refine L_skip rfl rfl ?_
          refine L_skip rfl rfl ?_
          refine L_skip rfl rfl ?_
          refine L_skip rfl rfl ?_
          refine L_y rfl (y_pick_t rfl rfl) rfl ?_
          refine L_nil ?_
          refine C_cond_t rfl ?_
          refine C_exit ?_
          refine C_region ?_
          refine L_y rfl (y_add rfl rfl (wi64 (by omega) (by omega))) rfl ?_
          refine L_y rfl (y_move rfl) rfl ?_
          refine L_nil ?_
          have hz : (vic (fun k => li.getD k false) (fun j => cnt18 segs size x (j : Int)) (k + 1)) = (vic (fun k => li.getD k false) (fun j => cnt18 segs size x (j : Int)) k) := vic_no hpk
          refine ⟨k + 1, by omega, by omega, ?_⟩
          try dsimp only
          rw [hz]
          exact ⟨⟨rfl, rfl, rfl, rfl, rfl, rfl, rfl, rfl, rfl, trivial⟩, ((hsub (.cons_cons _ (.cons_cons _ (.cons_cons _ (.cons_cons _ (.refl _)))))).trans (hsub_pick [0, 0, 0, 0] rfl))⟩
        · have h1 : k < li.length := by have := of_decide_eq_false hg14_5; omega
          obtain ⟨b2, o2, l2, T2, fr2, rfl, hs2, hle2, hv2⟩ := hI (by rw [bos_len]; omega)
          rw [bos_len] at hle2
          refine L_y rfl (y_load rfl ag_66 (sees 3 0 rfl) rfl) rfl ?_
          refine L_y rfl (y_move rfl) rfl ?_
          refine L_y rfl (y_indexS rfl rfl Try.underlying66 sz_4 (by omega) (by omega) (show _ = o2 + k * 1 from by simp)) rfl ?_
          refine L_y rfl (y_load rfl ag_4 (hs2.up.up.up.up) (bos_hat hv2 h1)) rfl ?_
          refine L_y rfl (y_not rfl) rfl ?_
          refine L_y rfl (y_pick_f rfl rfl) rfl ?_
          refine L_nil ?_
          refine C_cond rfl (fun hc3 => ?_) (fun hc3 => ?_)
          · have hpk : li.getD k false = false := by simpa using hc3
            refine C_exit ?_
            refine C_region ?_
            refine L_y rfl (y_add rfl rfl (wi64 (by omega) (by omega))) rfl ?_
            refine L_y rfl (y_move rfl) rfl ?_
            refine L_nil ?_
            have hz : (vic (fun k => li.getD k false) (fun j => cnt18 segs size x (j : Int)) (k + 1)) = (vic (fun k => li.getD k false) (fun j => cnt18 segs size x (j : Int)) k) := vic_no hpk
            refine ⟨k + 1, by omega, by omega, ?_⟩
            try dsimp only
            rw [hz]
            exact ⟨⟨rfl, rfl, rfl, rfl, rfl, rfl, rfl, rfl, rfl, trivial⟩, ((hsub (.cons_cons _ (.cons_cons _ (.cons_cons _ (.cons_cons _ (.refl _)))))).trans (hsub_pick [0, 0, 0, 0] rfl))⟩
          · have hpk : li.getD k false = true := by simpa using hc3
            refine C_skip ?_
            refine C_seq ?_
            refine C_region ?_
            refine L_y rfl (y_assign rfl) rfl ?_
            refine L_nil ?_
            refine C_seq ?_
            obtain ⟨v, hv⟩ : ∃ v, (vic (fun k => li.getD k false) (fun j => cnt18 segs size x (j : Int)) segs.toNat) = some v := by
              cases hq : (vic (fun k => li.getD k false) (fun j => cnt18 segs size x (j : Int)) segs.toNat) with
              | some v => exact ⟨v, rfl⟩
              | none => exact absurd hpk (by rw [vic_spec.vic_none hq k (by omega)]; decide)
            obtain ⟨s1, s2, s3⟩ := vic_spec hv
            have s4 := s3 k (by omega) hpk
            try simp only at s4
            rw [hv]
            try simp only [Option.getD_some]
            refine C_region ?_
            refine L_y rfl (y_move rfl) rfl ?_
            refine L_y rfl (y_move rfl) rfl ?_
            refine L_op rfl (op_call rfl rfl (fun a w => Try.call36 a w) rfl ?_)
            refine (FnS.sub (hsub_pick [1] rfl) (xlive_s hX (k : Int))).mono ?_
            rintro _ _ ⟨rfl, rfl⟩
            refine ⟨_, rfl, ?_⟩
            refine L_y rfl (y_move rfl) rfl ?_
            refine L_y rfl (y_move rfl) rfl ?_
            refine L_op rfl (op_call rfl rfl (fun a w => Try.call36 a w) rfl ?_)
            refine (FnS.sub (hsub_pick [0] rfl) (xlive_s hX (v : Int))).mono ?_
            rintro _ _ ⟨rfl, rfl⟩
            refine ⟨_, rfl, ?_⟩
            refine L_y rfl (y_lss rfl rfl) rfl ?_
            refine L_y rfl (y_move rfl) rfl ?_
            refine L_case 80 rfl (fun hg16_8 => ?_) (fun hg16_8 => ?_)
            · exact absurd (of_decide_eq_true hg16_8) (by omega)
            · skip
              refine L_y rfl (y_move rfl) rfl ?_
              refine L_y rfl (y_move rfl) rfl ?_
              refine L_op rfl (op_call rfl rfl (fun a w => Try.call36 a w) rfl ?_)
              refine (FnS.sub (hsub_pick [0] rfl) (xlive_s hX (k : Int))).mono ?_
              rintro _ _ ⟨rfl, rfl⟩
              refine ⟨_, rfl, ?_⟩
              refine L_y rfl (y_move rfl) rfl ?_
              refine L_y rfl (y_move rfl) rfl ?_
              refine L_op rfl (op_call rfl rfl (fun a w => Try.call36 a w) rfl ?_)
              refine (FnS.sub (hsub_pick [0] rfl) (xlive_s hX (v : Int))).mono ?_
              rintro _ _ ⟨rfl, rfl⟩
              refine ⟨_, rfl, ?_⟩
              refine L_y rfl (y_eqi rfl rfl) rfl ?_
              refine L_y rfl (y_move rfl) rfl ?_
              refine L_case 88 rfl (fun hg16_16 => ?_) (fun hg16_16 => ?_)
              · have he := of_decide_eq_true hg16_16
                have s5 := s4.2 (by omega)
                refine L_y rfl (y_move rfl) rfl ?_
                refine L_y rfl (y_move rfl) rfl ?_
                refine L_y rfl (y_lss rfl rfl) rfl ?_
                refine L_y rfl (y_pick_t rfl rfl) rfl ?_
                refine L_y rfl (y_pick_f rfl rfl) rfl ?_
                refine L_nil ?_
                refine C_cond rfl (fun hc4 => absurd (of_decide_eq_true hc4) (by omega)) (fun hc4 => ?_)
                refine C_skip ?_
                refine C_region ?_
                refine L_y rfl (y_add rfl rfl (wi64 (by omega) (by omega))) rfl ?_
                refine L_y rfl (y_move rfl) rfl ?_
                refine L_nil ?_
                have hz : (vic (fun k => li.getD k false) (fun j => cnt18 segs size x (j : Int)) (k + 1)).isSome = true := vic_some hpk
                refine ⟨k + 1, by omega, by omega, ?_⟩
                try dsimp only
                rw [hz]
                exact ⟨⟨rfl, rfl, rfl, rfl, rfl, rfl, rfl, rfl, rfl, trivial⟩, ((hsub (.cons_cons _ (.cons_cons _ (.cons_cons _ (.cons_cons _ (.refl _)))))).trans (hsub_pick [1, 0, 0, 0] rfl))⟩
              · skip
                refine L_skip rfl rfl ?_
                refine L_skip rfl rfl ?_
                refine L_skip rfl rfl ?_
                refine L_y rfl (y_pick_f rfl rfl) rfl ?_
                refine L_y rfl (y_pick_f rfl rfl) rfl ?_
                refine L_nil ?_
                refine C_cond_f rfl ?_
                refine C_skip ?_
                refine C_region ?_
                refine L_y rfl (y_add rfl rfl (wi64 (by omega) (by omega))) rfl ?_
                refine L_y rfl (y_move rfl) rfl ?_
                refine L_nil ?_
                have hz : (vic (fun k => li.getD k false) (fun j => cnt18 segs size x (j : Int)) (k + 1)).isSome = true := vic_some hpk
                refine ⟨k + 1, by omega, by omega, ?_⟩
                try dsimp only
                rw [hz]
                exact ⟨⟨rfl, rfl, rfl, rfl, rfl, rfl, rfl, rfl, rfl, trivial⟩, ((hsub (.cons_cons _ (.cons_cons _ (.cons_cons _ (.cons_cons _ (.refl _)))))).trans (hsub_pick [1, 0, 0, 0] rfl))⟩
      · replace hc2 : ¬ (k : Int) < segs := of_decide_eq_false hc2
        obtain rfl : k = segs.toNat := by omega
        refine C_exit ?_
        refine C_seq ?_
        refine C_region ?_
        refine L_y rfl (y_load rfl ag_4 (sees 0 0 rfl) rfl) rfl ?_
        refine L_y rfl (y_move rfl) rfl ?_
        refine L_y rfl (y_move rfl) rfl ?_
        refine L_y rfl (y_move rfl) rfl ?_
        refine L_y rfl (y_eqb rfl rfl Try.underlying4) rfl ?_
        refine L_y rfl (y_pick_t rfl rfl) rfl ?_
        refine L_y rfl (y_move rfl) rfl ?_
        refine L_case 101 rfl (fun hg19_7 => ?_) (fun hg19_7 => ?_)
        · skip
          refine L_y rfl (y_move rfl) rfl ?_
          refine L_y rfl (y_not rfl) rfl ?_
          refine L_y rfl (y_move rfl) rfl ?_
          refine L_case 104 rfl (fun hg19_10 => ?_) (fun hg19_10 => ?_)
          · skip
            refine L_skip rfl rfl ?_
            refine L_skip rfl rfl ?_
            refine L_skip rfl rfl ?_
            refine L_skip rfl rfl ?_
            refine L_skip rfl rfl ?_
            refine L_skip rfl rfl ?_
            refine L_skip rfl rfl ?_
            refine L_skip rfl rfl ?_
            refine L_skip rfl rfl ?_
            refine L_skip rfl rfl ?_
            refine L_y rfl (y_pick_t rfl rfl) rfl ?_
            refine L_y rfl (y_pick_t rfl rfl) rfl ?_
            refine L_y rfl (y_assign rfl) rfl ?_
            refine L_nil ?_
            refine C_ret ?_
            refine B_ret (rv_tmp rfl rv_nil) (HSub.refl _) ?_
            first | rfl | exact ret_bool s2 | exact ret_bool (by simp)
          · obtain ⟨v, hv⟩ : ∃ v, (vic (fun k => li.getD k false) (fun j => cnt18 segs size x (j : Int)) segs.toNat) = some v := Option.isSome_iff_exists.1 (by simpa using hg19_10)
            obtain ⟨s1, s2, s3⟩ := vic_spec hv
            rw [hv]
            try simp only [Option.getD_some]
            refine L_y rfl (y_move rfl) rfl ?_
            refine L_y rfl (y_load rfl ag_66 (sees 3 0 rfl) rfl) rfl ?_
            refine L_y rfl (y_lenS rfl rfl Try.underlying66) rfl ?_
            refine L_y rfl (y_lss rfl rfl) rfl ?_
            refine L_y rfl (y_move rfl) rfl ?_
            refine L_case 109 rfl (fun hg19_15 => ?_) (fun hg19_15 => ?_)
            · have h1 := getD_lt s2
              obtain ⟨b2, o2, l2, T2, fr2, rfl, hs2, hle2, hv2⟩ := hI (by rw [bos_len]; omega)
              rw [bos_len] at hle2
              refine L_y rfl (y_load rfl ag_66 (sees 3 0 rfl) rfl) rfl ?_
              refine L_y rfl (y_move rfl) rfl ?_
              refine L_y rfl (y_indexS rfl rfl Try.underlying66 sz_4 (by omega) (by omega) (show _ = o2 + v * 1 from by simp)) rfl ?_
              refine L_y rfl (y_load rfl ag_4 (hs2.up.up.up.up) (bos_hat hv2 h1)) rfl ?_
              refine L_y rfl (y_pick_t rfl rfl) rfl ?_
              refine L_y rfl (y_pick_f rfl rfl) rfl ?_
              refine L_y rfl (y_pick_t rfl rfl) rfl ?_
              refine L_y rfl (y_assign rfl) rfl ?_
              refine L_nil ?_
              refine C_ret ?_
              refine B_ret (rv_tmp rfl rv_nil) (HSub.refl _) ?_
              first | rfl | exact ret_bool s2 | exact ret_bool (by simp)
            · exact absurd (of_decide_eq_false hg19_15) (by have := getD_lt s2; omega)
        · exact absurd hg19_7 (by simp)

end Go.Proofs.Ytaeooiogjhkjfaa

/- From a row's reading of a slice of bytes to what a walk asks (own work). -/
set_option linter.unusedVariables false
namespace Go.Sl
open Go.RowKit
end Go.Sl

/- What a row tells of its arguments, for flat types (integers, bools, structs and arrays of these) and slices of them (own work). -/
set_option linter.unusedVariables false
set_option linter.unusedSimpArgs false
namespace Go.Sl
open Go.RowKit
inductive Sc where
  | int (k : IntKind)
  | bool
def Sc.fit : Sc → Value → Prop
  | .int k, v => ∃ n, v = .int k n ∧ (Lit.int k n).wf = true
  | .bool, v => ∃ b, v = .bool b
/-- A row of cells fits a row of scalars. -/
def Fits : List Sc → List Value → Prop
  | [], [] => True
  | s :: ss, v :: vs => s.fit v ∧ Fits ss vs
  | _, _ => False
theorem Fits.length : ∀ {ss : List Sc} {vs : List Value}, Fits ss vs → vs.length = ss.length
  | [], [], _ => rfl
  | _ :: _, _ :: _, h => by simp [Fits.length h.2]
  | [], _ :: _, h => h.elim
  | _ :: _, [], h => h.elim
theorem Fits.append : ∀ {ss tt : List Sc} {vs us : List Value}, Fits ss vs → Fits tt us → Fits (ss ++ tt) (vs ++ us)
  | [], _, [], _, _, h => h
  | _ :: _, _, _ :: _, _, h, k => ⟨h.1, Fits.append h.2 k⟩
  | [], _, _ :: _, _, h, _ => h.elim
  | _ :: _, _, [], _, h, _ => h.elim
theorem Fits.cons_iff {s : Sc} {ss : List Sc} {vs : List Value} : Fits (s :: ss) vs ↔ ∃ v us, vs = v :: us ∧ s.fit v ∧ Fits ss us := by
  cases vs with
  | nil => simp [Fits]
  | cons v us =>
    refine ⟨fun h => ⟨v, us, rfl, h⟩, fun ⟨v', us', e, h⟩ => ?_⟩
    obtain ⟨rfl, rfl⟩ := List.cons.inj e
    exact h
theorem Fits.nil_iff {vs : List Value} : Fits [] vs ↔ vs = [] := by cases vs <;> simp [Fits]
theorem Fits.split : ∀ {ss tt : List Sc} {vs : List Value}, Fits (ss ++ tt) vs → ∃ a b, vs = a ++ b ∧ Fits ss a ∧ Fits tt b
  | [], _, vs, h => ⟨[], vs, rfl, trivial, h⟩
  | s :: ss, tt, vs, h => by
    obtain ⟨v, us, rfl, h1, h2⟩ := Fits.cons_iff.1 h
    obtain ⟨a, b, rfl, h3, h4⟩ := Fits.split (ss := ss) h2
    exact ⟨v :: a, b, rfl, ⟨h1, h3⟩, h4⟩
/-- A row of bytes. -/
theorem Fits.bytes : ∀ {n : Nat} {vs : List Value}, Fits (List.replicate n (.int .u8)) vs → ∃ u : List UInt8, vs = bs u ∧ u.length = n
  | 0, vs, h => ⟨[], by rw [Fits.nil_iff.1 h]; rfl, rfl⟩
  | n + 1, vs, h => by
    rw [List.replicate_succ] at h
    obtain ⟨v, us, rfl, ⟨m, rfl, hm⟩, h2⟩ := Fits.cons_iff.1 h
    obtain ⟨u, rfl, rfl⟩ := Fits.bytes h2
    have hb := bounds_u8 hm
    refine ⟨UInt8.ofNat m.toNat :: u, ?_, rfl⟩
    rw [u8_of_int (by omega) (by omega)]; rfl
def flatF (P : Program) (g : TypeId → Option (List Sc)) : List Field → Nat → Option (List Sc)
  | [], _ => some []
  | f :: fs, off => if f.offset = off then (g f.type).bind fun l => if P.cellsOf f.type = l.length then (flatF P g fs (off + l.length)).map (l ++ ·) else none else none
def flatT (P : Program) : Nat → TypeId → Option (List Sc)
  | 0, _ => none
  | d + 1, t => match P.underlying t with
    | some (.int k) => some [.int k]
    | some .bool => some [.bool]
    | some (.struct fs) => (flatF P (flatT P d) fs.toList 0).bind fun l => if P.cellsOf t = l.length then some l else none
    | some (.array n e) => (flatT P d e).bind fun l => if P.cellsOf e = l.length ∧ P.cellsOf t = n * l.length then some (List.replicate n l).flatten else none
    | _ => none
theorem flatF_fits {P : Program} {g : TypeId → Option (List Sc)} {cs : List Value} : ∀ {fs : List Field} {off : Nat} {sh : List Sc}, flatF P g fs off = some sh →
    (∀ f ∈ fs, ∀ l, g f.type = some l → Fits l ((cs.drop f.offset).take (P.cellsOf f.type))) → Fits sh ((cs.drop off).take sh.length)
  | [], off, sh, h, _ => by
    simp only [flatF, Option.some.injEq] at h
    subst h; simp [Fits]
  | f :: fs, off, sh, h, hf => by
    unfold flatF at h
    split at h
    · rename_i ho
      cases hg : g f.type with
      | none => simp [hg] at h
      | some l =>
        rw [hg] at h; simp only [Option.bind_some] at h
        split at h
        · rename_i hc
          cases hr : flatF P g fs (off + l.length) with
          | none => simp [hr] at h
          | some l2 =>
            simp only [hr, Option.map_some, Option.some.injEq] at h
            subst h
            have h1 := hf f (by simp) l hg
            have h2 := flatF_fits hr (fun f' hf' => hf f' (by simp [hf']))
            rw [ho, hc] at h1
            have h3 := Fits.append h1 h2
            rw [List.length_append, List.take_add, List.drop_drop]
            exact h3
        · cases h
    · cases h
section
variable {H : Type} {enc : TypeId × Value → H} {P : Program} {w : World} {base : Nat} {spare : Nat → Bool} {held : Bool}
theorem arr_fits {l : List Sc} : ∀ {n : Nat} {cs : List Value}, cs.length = n * l.length → (∀ i, i < n → Fits l ((cs.drop (i * l.length)).take l.length)) → Fits (List.replicate n l).flatten cs
  | 0, cs, h, _ => by simp at h; subst h; simp [Fits]
  | n + 1, cs, h, hi => by
    rw [Nat.add_mul, Nat.one_mul] at h
    have h0 := hi 0 (by omega)
    rw [Nat.zero_mul, List.drop_zero] at h0
    have h1 := arr_fits (l := l) (n := n) (cs := cs.drop l.length) (by simp; omega) (fun i hi' => by
      have := hi (i + 1) (by omega)
      rw [List.drop_drop, show l.length + i * l.length = (i + 1) * l.length from by rw [Nat.add_mul, Nat.one_mul, Nat.add_comm]]
      exact this)
    have h2 := Fits.append h0 h1
    rw [List.take_append_drop] at h2
    rw [List.replicate_succ, List.flatten_cons]
    exact h2
theorem flat_trod : ∀ {d : Nat} {t : TypeId} {sh : List Sc}, flatT P d t = some sh → ∀ {fuel : Nat} {cs : List Value} {x : DataW H × List MemPlace}, DataW.trod enc P w base spare held fuel t cs = some x → Fits sh cs
  | 0, _, _, h, _, _, _, _ => by simp [flatT] at h
  | d + 1, t, sh, h, fuel, cs, x, hx => by
    unfold flatT at h
    split at h
    · rename_i k hu
      obtain ⟨n, rfl, _, hw⟩ := DataW.trod_int hu hx
      simp only [Option.some.injEq] at h; subst h
      exact ⟨⟨n, rfl, hw⟩, trivial⟩
    · rename_i hu
      obtain ⟨b, rfl, _⟩ := DataW.trod_bool hu hx
      simp only [Option.some.injEq] at h; subst h
      exact ⟨⟨b, rfl⟩, trivial⟩
    · rename_i fs hu
      obtain ⟨xs, n, _, _, hl, hlen, hf⟩ := DataW.trod_struct hu hx
      cases hF : flatF P (flatT P d) fs.toList 0 with
      | none => simp [hF] at h
      | some l =>
        simp only [hF, Option.bind_some] at h
        split at h
        · rename_i hc
          simp only [Option.some.injEq] at h; subst h
          have := flatF_fits (cs := cs) hF (fun f hfm l' hl' => by
            obtain ⟨i, hi, rfl⟩ := List.getElem_of_mem hfm
            have h1 := hf i _ (by rw [← Array.getElem?_toList]; exact List.getElem?_eq_getElem hi)
            have h2 : i < xs.length := by rw [hlen]; simpa using hi
            rw [List.getElem?_eq_getElem h2] at h1
            exact flat_trod hl' h1)
          rw [List.drop_zero, List.take_of_length_le (by omega)] at this
          exact this
        · cases h
    · rename_i n e hu
      obtain ⟨xs, m, _, _, hl, hlen, hf⟩ := DataW.trod_array hu hx
      cases hF : flatT P d e with
      | none => simp [hF] at h
      | some l =>
        simp only [hF, Option.bind_some] at h
        split at h
        · rename_i hc
          simp only [Option.some.injEq] at h; subst h
          refine arr_fits (by rw [hl, hc.2]) (fun i hi => ?_)
          have h1 := hf i hi
          have h2 : i < xs.length := by omega
          rw [List.getElem?_eq_getElem h2, hc.1] at h1
          exact flat_trod hF h1
        · cases h
    · cases h
/-- A flat struct or array as an argument. -/
theorem flat_agg {d : Nat} {t : TypeId} {sh : List Sc} {v : Value} {D : DataW H} {ps : List MemPlace} (h : flatT P d t = some sh) (hv : ∃ cs, v = .agg cs) (hT : DataW.Trod enc P w base spare held t v D ps) : ∃ cs, v = .agg cs.toArray ∧ Fits sh cs := by
  obtain ⟨cs, rfl⟩ := hv
  obtain ⟨fuel, hf⟩ := hT
  exact ⟨cs.toList, by simp, flat_trod h hf⟩
theorem okWide_agg {r : Reach} {b0 : Nat} {t : TypeId} {v : Value} (ht : isAggT P t = true) (h : Value.okWide P w r b0 t v) : ∃ cs, v = .agg cs := by
  unfold Value.okWide at h
  unfold isAggT at ht
  split at h
  · obtain ⟨cs, rfl, _⟩ := h; exact ⟨cs, rfl⟩
  · obtain ⟨cs, rfl, _⟩ := h; exact ⟨cs, rfl⟩
  · rename_i h1 h2
    cases hu : P.underlying t with
    | none => simp [hu] at ht
    | some dd =>
      cases dd with
      | struct fs => exact absurd hu (h1 fs)
      | array n e => exact absurd hu (h2 n e)
      | _ => simp [hu] at ht
/-- What is told of a slice that came in. -/
def InS (w : World) (sh : List Sc) (a : Option Addr) (len cap : Nat) : Prop :=
  (a = none ∧ len = 0 ∧ cap = 0) ∨ ∃ (x : Addr), a = some x ∧ len ≤ cap ∧ cap ≤ maxLen ∧
    (0 < len → ∃ (b off : Nat) (l : List Value) (T : TypeId) (fr : Nat × Nat), x = ⟨b, off, none⟩ ∧ w.heap[b]? = some (.cells l.toArray T fr) ∧ off + len * sh.length ≤ l.length ∧
      ∀ i, i < len → Fits sh ((l.drop (off + i * sh.length)).take sh.length))
theorem cell_block {w : World} {b off : Nat} {spot : Option Nat} {v : Value} (h : w.cell? ⟨b, off, spot⟩ = some v) : spot = none ∧ ∃ (l : List Value) (T : TypeId) (fr : Nat × Nat), w.heap[b]? = some (.cells l.toArray T fr) := by
  have hs : spot = none := by
    unfold World.cell? at h
    cases spot with
    | none => rfl
    | some s => split at h <;> simp at h
  subst hs
  refine ⟨rfl, ?_⟩
  cases hb : w.heap[b]? with
  | none => simp [World.cell?, hb] at h
  | some o =>
    cases o with
    | cells c T fr => exact ⟨c.toList, T, fr, by simp⟩
    | _ => simp [World.cell?, hb] at h
theorem flat_slice {d : Nat} {t e : TypeId} {sh : List Sc} {a : Option Addr} {len cap : Nat} {D : DataW H} {ps : List MemPlace} (ht : P.underlying t = some (.slice e)) (h : flatT P d e = some sh) (hc : P.cellsOf e = sh.length) (hp : 0 < sh.length)
    (hT : DataW.Trod enc P w base (fun _ => true) held t (.slice a len cap) D ps) : InS w sh a len cap := by
  obtain ⟨fuel, hf⟩ := hT
  rcases Go.Deep.open_slice ht hf with ⟨hcs, _⟩ | ⟨x, len', cap', m, n, DD, Pl, hcs, _, hl, hm, hmm, _, hx⟩
  · simp [Value.cells] at hcs
    exact .inl hcs
  · simp [Value.cells] at hcs
    obtain ⟨rfl, rfl, rfl⟩ := hcs
    refine .inr ⟨x, rfl, hl, hm, fun hpos => ?_⟩
    simp only [if_true] at hmm
    subst hmm
    rw [hc] at hx
    obtain ⟨b, off, spot⟩ := x
    obtain ⟨cs1, f1, f2⟩ := hx 0 (by omega)
    obtain ⟨_, f3, f4⟩ := World.cells?_some f1
    have f5 := f4 0 hp
    rw [List.getElem?_eq_getElem (by omega), show (Addr.add (Addr.add ⟨b, off, spot⟩ (0 * sh.length)) 0) = ⟨b, off, spot⟩ from by simp [Addr.add]] at f5
    obtain ⟨rfl, l, T, fr, hb⟩ := cell_block f5
    have hcell : ∀ i, i < len → ∃ cs', cs'.length = sh.length ∧ Fits sh cs' ∧ ∀ j, j < sh.length → w.cell? ⟨b, off + (i * sh.length + j), none⟩ = cs'[j]? := fun i hi => by
      obtain ⟨cs', h1, h2⟩ := hx i (by omega)
      obtain ⟨_, h3, h4⟩ := World.cells?_some h1
      exact ⟨cs', h3, flat_trod h h2, fun j hj => by have := h4 j hj; rw [addr_add, addr_add] at this; simpa [Nat.add_assoc] using this⟩
    have hget : ∀ i, i < len → ∀ j, j < sh.length → ∃ v, l[off + (i * sh.length + j)]? = some v ∧ w.cell? ⟨b, off + (i * sh.length + j), none⟩ = some v := fun i hi j hj => by
      obtain ⟨cs', h1, h2, h3⟩ := hcell i hi
      have h4 := h3 j hj
      rw [List.getElem?_eq_getElem (by omega)] at h4
      refine ⟨_, ?_, h4⟩
      simpa [World.cell?, hb] using h4
    have hle : off + len * sh.length ≤ l.length := by
      obtain ⟨v, h1, _⟩ := hget (len - 1) (by omega) (sh.length - 1) (by omega)
      have h2 := (List.getElem?_eq_some_iff.1 h1).1
      have h3 : (len - 1) * sh.length + sh.length = len * sh.length := by
        rw [← Nat.succ_mul]; congr 1; omega
      omega
    refine ⟨b, off, l, T, fr, rfl, hb, hle, fun i hi => ?_⟩
    obtain ⟨cs', h1, h2, h3⟩ := hcell i hi
    have : (l.drop (off + i * sh.length)).take sh.length = cs' := by
      apply List.ext_getElem?
      intro j
      by_cases hj : j < sh.length
      · rw [List.getElem?_take_of_lt hj, List.getElem?_drop, ← h3 j hj]
        obtain ⟨v, k1, k2⟩ := hget i hi j hj
        rw [k2, Nat.add_assoc, k1]
      · have hc : i * sh.length + sh.length ≤ len * sh.length := by
          rw [← Nat.succ_mul]; exact Nat.mul_le_mul_right _ hi
        rw [List.getElem?_eq_none (by simp; omega), List.getElem?_eq_none (by omega)]
    rw [this]; exact h2
/-- The same, told as one row of elements. -/
theorem inS_rows {w : World} {sh : List Sc} {α : Type} {f : α → List Value} (hf : ∀ cs, Fits sh cs → ∃ x, cs = f x) : ∀ {len : Nat} {l : List Value} {off : Nat}, off + len * sh.length ≤ l.length →
    (∀ i, i < len → Fits sh ((l.drop (off + i * sh.length)).take sh.length)) → ∃ xs : List α, xs.length = len ∧ (l.drop off).take (len * sh.length) = (xs.map f).flatten
  | 0, l, off, _, _ => ⟨[], rfl, by simp⟩
  | len + 1, l, off, hl, h => by
    have h0 := h 0 (by omega)
    rw [Nat.zero_mul, Nat.add_zero] at h0
    obtain ⟨x, hx⟩ := hf _ h0
    rw [Nat.succ_mul] at hl
    obtain ⟨xs, h1, h2⟩ := inS_rows (w := w) hf (len := len) (l := l) (off := off + sh.length) (by omega) (fun i hi => by
      have := h (i + 1) (by omega)
      rw [Nat.succ_mul] at this
      rw [show off + sh.length + i * sh.length = off + (i * sh.length + sh.length) from by omega]
      exact this)
    refine ⟨x :: xs, by simp [h1], ?_⟩
    rw [Nat.succ_mul, Nat.add_comm (len * sh.length), List.take_add, List.drop_drop, hx, h2]
    rfl
end
end Go.Sl

/- Rows over a slice of deeds on numbers (own work). -/
set_option linter.unusedVariables false
namespace Go.Sl
open Go.RowKit
theorem fits_a8 {cs : List Value} (h : Fits [.int .u8, .int .u64, .int .i64] cs) : ∃ x, cs = a8c x := by
  obtain ⟨_, _, rfl, ⟨a, rfl, ha⟩, g1⟩ := Fits.cons_iff.1 h
  obtain ⟨_, _, rfl, ⟨b, rfl, hb⟩, g2⟩ := Fits.cons_iff.1 g1
  obtain ⟨_, _, rfl, ⟨c, rfl, _⟩, g3⟩ := Fits.cons_iff.1 g2
  obtain rfl := Fits.nil_iff.1 g3
  have h1 := bounds_u8 ha
  have h2 := bounds_u64 hb
  refine ⟨(UInt8.ofNat a.toNat, UInt64.ofNat b.toNat, c), ?_⟩
  simp
  omega
theorem in_a8 {w : World} {a : Option Addr} {len cap : Nat} (h : InS w [.int .u8, .int .u64, .int .i64] a len cap) : ∃ ds : List A18, len = ds.length ∧ Holds w [] a (a8s ds) := by
  rcases h with ⟨rfl, rfl, rfl⟩ | ⟨x, rfl, h1, h2, h3⟩
  · exact ⟨[], rfl, fun hp => by simp [a8s] at hp⟩
  · rcases Nat.eq_zero_or_pos len with rfl | hp
    · exact ⟨[], rfl, fun hp => by simp [a8s] at hp⟩
    · obtain ⟨b, off, l, T, fr, rfl, hb, hl, hf⟩ := h3 hp
      obtain ⟨ds, hd, ht⟩ := inS_rows (w := w) (f := a8c) (fun cs hc => fits_a8 hc) hl hf
      refine ⟨ds, hd.symm, fun _ => ⟨b, off, l, T, fr, rfl, sees_old hb, ?_, ?_⟩⟩
      · rw [a8s_len, hd]; exact hl
      · rw [a8s_len, hd]; exact ht
theorem in_bos {w : World} {a : Option Addr} {len cap : Nat} (h : InS w [.bool] a len cap) : ∃ ds : List Bool, len = ds.length ∧ Holds w [] a (bos ds) := by
  rcases h with ⟨rfl, rfl, rfl⟩ | ⟨x, rfl, h1, h2, h3⟩
  · exact ⟨[], rfl, fun hp => by simp [bos] at hp⟩
  · rcases Nat.eq_zero_or_pos len with rfl | hp
    · exact ⟨[], rfl, fun hp => by simp [bos] at hp⟩
    · obtain ⟨b, off, l, T, fr, rfl, hb, hl, hf⟩ := h3 hp
      obtain ⟨ds, hd, ht⟩ := inS_rows (w := w) (f := fun b : Bool => [Value.bool b]) (fun cs hc => by
        obtain ⟨_, _, rfl, ⟨a, rfl⟩, g1⟩ := Fits.cons_iff.1 hc
        obtain rfl := Fits.nil_iff.1 g1
        exact ⟨a, rfl⟩) hl hf
      have e : (ds.map fun b : Bool => [Value.bool b]).flatten = bos ds := by
        clear ht hd
        induction ds with
        | nil => rfl
        | cons x l ih => simp only [List.map_cons, List.flatten_cons, ih]; rfl
      refine ⟨ds, hd.symm, fun _ => ⟨b, off, l, T, fr, rfl, sees_old hb, ?_, ?_⟩⟩
      · rw [bos_len, hd]; simpa using hl
      · rw [bos_len, hd, ← e]; simpa using ht
end Go.Sl


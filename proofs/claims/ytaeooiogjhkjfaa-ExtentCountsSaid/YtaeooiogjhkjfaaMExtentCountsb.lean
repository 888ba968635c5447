/- Own work: texts E6W, Rd8, Cg, A8, Cl, Rn, M0W, Fh, E7W, Fe, E0W, E1W, Fg2, Fg, G0W, So, G2W, put together. -/
import Derived.Test.YtaeooiogjhkjfaaProg
import Derived.Laws.Bits64
import Derived.Laws.Bits64b
import Derived.Test.YtaeooiogjhkjfaaMExtentCountsa
/- walks (own work; the walks' lines by a program of this repo). -/
set_option linter.unusedVariables false
set_option linter.unusedSimpArgs false
set_option maxRecDepth 20000
namespace Go.Proofs.Ytaeooiogjhkjfaa
open Go.Sl
attribute [local irreducible] BodyQ WpC WpL WpS WpH OpW FnS


theorem put18_0t {w0 : World} {H : Hp} {l : Xl} {g : Option SlG} (hok : slOk 2 g l.length (lcs l)) (hl : l.length < 1000000) (segs size : Int) (n : Nat) (a : Int) (h0 : n = 0) : FnS Try.prog w0 77 #[slV g l.length, .int .i64 segs, .int .i64 size, .int .u64 (n : Int), .int .i64 a, .bool true] (slSeg 79 g (lcs l) :: H) (fun e H' => ∃ g2, slOk 2 g2 (xput segs size l n a true).1.length (lcs (xput segs size l n a true).1) ∧ e = .returned (.tuple #[slV g2 (xput segs size l n a true).1.length, .int .i64 (xput segs size l n a true).2]) ∧ H' = slSeg 79 g2 (lcs (xput segs size l n a true).1) :: H) := by
  refine FnS_intro (n := 86) (rs := [.tmp 12, .tmp 13]) (vs := [slV g l.length, .int .i64 segs, .int .i64 size, .int .u64 (n : Int), .int .i64 a, .bool true]) Try.func77 rfl Try.ntmps77 rfl rfl ?_
  refine C_seq ?_
  refine C_region ?_
  refine L_y rfl (y_assign rfl) rfl ?_
  refine L_y rfl (y_assign rfl) rfl ?_
  refine L_nil ?_
  refine C_seq ?_
  refine C_seq ?_
  refine C_region ?_
  refine L_y rfl (y_move rfl) rfl ?_
  refine L_y rfl (y_eqi rfl rfl) rfl ?_
  refine L_nil ?_
  refine C_cond rfl (fun hc0 => ?_) (fun hc0 => absurd hc0 (by simp [h0]))
  refine C_seq ?_
  refine C_region ?_
  refine L_y rfl (y_move rfl) rfl ?_
  refine L_y rfl (y_assign rfl) rfl ?_
  refine L_y rfl (y_assign rfl) rfl ?_
  refine L_nil ?_
  refine C_ret ?_
  refine B_ret (rv_tmp rfl (rv_tmp rfl rv_nil)) ((hsub (.cons_cons _ (.refl _))).trans (hsub_pick [0] rfl)) ?_
  have e4 : xput segs size l n a true = (l, 1) := by simp [xput, *]
  rw [e4]
  exact ⟨g, hok, rfl, rfl⟩

theorem put18_rt {w0 : World} {H : Hp} {l : Xl} {g : Option SlG} (hok : slOk 2 g l.length (lcs l)) (hl : l.length < 1000000) (segs size : Int) (n : Nat) (a : Int) (h0 : n ≠ 0) (ho : ofS segs size a = none) : FnS Try.prog w0 77 #[slV g l.length, .int .i64 segs, .int .i64 size, .int .u64 (n : Int), .int .i64 a, .bool true] (slSeg 79 g (lcs l) :: H) (fun e H' => ∃ g2, slOk 2 g2 (xput segs size l n a true).1.length (lcs (xput segs size l n a true).1) ∧ e = .returned (.tuple #[slV g2 (xput segs size l n a true).1.length, .int .i64 (xput segs size l n a true).2]) ∧ H' = slSeg 79 g2 (lcs (xput segs size l n a true).1) :: H) := by
  refine FnS_intro (n := 86) (rs := [.tmp 12, .tmp 13]) (vs := [slV g l.length, .int .i64 segs, .int .i64 size, .int .u64 (n : Int), .int .i64 a, .bool true]) Try.func77 rfl Try.ntmps77 rfl rfl ?_
  refine C_seq ?_
  refine C_region ?_
  refine L_y rfl (y_assign rfl) rfl ?_
  refine L_y rfl (y_assign rfl) rfl ?_
  refine L_nil ?_
  refine C_seq ?_
  refine C_seq ?_
  refine C_region ?_
  refine L_y rfl (y_move rfl) rfl ?_
  refine L_y rfl (y_eqi rfl rfl) rfl ?_
  refine L_nil ?_
  refine C_cond rfl (fun hc0 => absurd hc0 (by simp <;> omega)) (fun hc0 => ?_)
  refine C_skip ?_
  refine C_seq ?_
  refine C_seq ?_
  refine C_region ?_
  refine L_y rfl (y_move rfl) rfl ?_
  refine L_y rfl (y_move rfl) rfl ?_
  refine L_y rfl (y_move rfl) rfl ?_
  refine L_op rfl (op_call rfl rfl (fun a w => Try.call84 a w) rfl ?_)
  refine (seg18_s segs size a).mono ?_
  rintro _ _ ⟨rfl, e⟩
  obtain rfl := e.symm
  clear e
  rw [seg18_no ho]
  refine ⟨_, rfl, ?_⟩
  refine L_y rfl (y_lss rfl rfl) rfl ?_
  refine L_nil ?_
  refine C_cond_t rfl ?_
  refine C_seq ?_
  refine C_region ?_
  refine L_y rfl (y_move rfl) rfl ?_
  refine L_y rfl (y_assign rfl) rfl ?_
  refine L_y rfl (y_assign rfl) rfl ?_
  refine L_nil ?_
  refine C_ret ?_
  refine B_ret (rv_tmp rfl (rv_tmp rfl rv_nil)) ((hsub (.cons_cons _ (.refl _))).trans (hsub_pick [0] rfl)) ?_
  have e4 : xput segs size l n a true = (l, 2) := by simp [xput, *]
  rw [e4]
  exact ⟨g, hok, rfl, rfl⟩

theorem put18_0f {w0 : World} {H : Hp} {l : Xl} {g : Option SlG} (hok : slOk 2 g l.length (lcs l)) (hl : l.length < 1000000) (segs size : Int) (n : Nat) (a : Int) (h0 : n = 0) : FnS Try.prog w0 77 #[slV g l.length, .int .i64 segs, .int .i64 size, .int .u64 (n : Int), .int .i64 a, .bool false] (slSeg 79 g (lcs l) :: H) (fun e H' => ∃ g2, slOk 2 g2 (xput segs size l n a false).1.length (lcs (xput segs size l n a false).1) ∧ e = .returned (.tuple #[slV g2 (xput segs size l n a false).1.length, .int .i64 (xput segs size l n a false).2]) ∧ H' = slSeg 79 g2 (lcs (xput segs size l n a false).1) :: H) := by
  refine FnS_intro (n := 86) (rs := [.tmp 12, .tmp 13]) (vs := [slV g l.length, .int .i64 segs, .int .i64 size, .int .u64 (n : Int), .int .i64 a, .bool false]) Try.func77 rfl Try.ntmps77 rfl rfl ?_
  refine C_seq ?_
  refine C_region ?_
  refine L_y rfl (y_assign rfl) rfl ?_
  refine L_y rfl (y_assign rfl) rfl ?_
  refine L_nil ?_
  refine C_seq ?_
  refine C_seq ?_
  refine C_region ?_
  refine L_y rfl (y_move rfl) rfl ?_
  refine L_y rfl (y_eqi rfl rfl) rfl ?_
  refine L_nil ?_
  refine C_cond rfl (fun hc0 => ?_) (fun hc0 => absurd hc0 (by simp [h0]))
  refine C_seq ?_
  refine C_region ?_
  refine L_y rfl (y_move rfl) rfl ?_
  refine L_y rfl (y_assign rfl) rfl ?_
  refine L_y rfl (y_assign rfl) rfl ?_
  refine L_nil ?_
  refine C_ret ?_
  refine B_ret (rv_tmp rfl (rv_tmp rfl rv_nil)) ((hsub (.cons_cons _ (.refl _))).trans (hsub_pick [0] rfl)) ?_
  have e4 : xput segs size l n a false = (l, 1) := by simp [xput, *]
  rw [e4]
  exact ⟨g, hok, rfl, rfl⟩

theorem put18_rf {w0 : World} {H : Hp} {l : Xl} {g : Option SlG} (hok : slOk 2 g l.length (lcs l)) (hl : l.length < 1000000) (segs size : Int) (n : Nat) (a : Int) (h0 : n ≠ 0) (ho : ofS segs size a = none) : FnS Try.prog w0 77 #[slV g l.length, .int .i64 segs, .int .i64 size, .int .u64 (n : Int), .int .i64 a, .bool false] (slSeg 79 g (lcs l) :: H) (fun e H' => ∃ g2, slOk 2 g2 (xput segs size l n a false).1.length (lcs (xput segs size l n a false).1) ∧ e = .returned (.tuple #[slV g2 (xput segs size l n a false).1.length, .int .i64 (xput segs size l n a false).2]) ∧ H' = slSeg 79 g2 (lcs (xput segs size l n a false).1) :: H) := by
  refine FnS_intro (n := 86) (rs := [.tmp 12, .tmp 13]) (vs := [slV g l.length, .int .i64 segs, .int .i64 size, .int .u64 (n : Int), .int .i64 a, .bool false]) Try.func77 rfl Try.ntmps77 rfl rfl ?_
  refine C_seq ?_
  refine C_region ?_
  refine L_y rfl (y_assign rfl) rfl ?_
  refine L_y rfl (y_assign rfl) rfl ?_
  refine L_nil ?_
  refine C_seq ?_
  refine C_seq ?_
  refine C_region ?_
  refine L_y rfl (y_move rfl) rfl ?_
  refine L_y rfl (y_eqi rfl rfl) rfl ?_
  refine L_nil ?_
  refine C_cond rfl (fun hc0 => absurd hc0 (by simp <;> omega)) (fun hc0 => ?_)
  refine C_skip ?_
  refine C_seq ?_
  refine C_seq ?_
  refine C_region ?_
  refine L_y rfl (y_move rfl) rfl ?_
  refine L_y rfl (y_move rfl) rfl ?_
  refine L_y rfl (y_move rfl) rfl ?_
  refine L_op rfl (op_call rfl rfl (fun a w => Try.call84 a w) rfl ?_)
  refine (seg18_s segs size a).mono ?_
  rintro _ _ ⟨rfl, e⟩
  obtain rfl := e.symm
  clear e
  rw [seg18_no ho]
  refine ⟨_, rfl, ?_⟩
  refine L_y rfl (y_lss rfl rfl) rfl ?_
  refine L_nil ?_
  refine C_cond_t rfl ?_
  refine C_seq ?_
  refine C_region ?_
  refine L_y rfl (y_move rfl) rfl ?_
  refine L_y rfl (y_assign rfl) rfl ?_
  refine L_y rfl (y_assign rfl) rfl ?_
  refine L_nil ?_
  refine C_ret ?_
  refine B_ret (rv_tmp rfl (rv_tmp rfl rv_nil)) ((hsub (.cons_cons _ (.refl _))).trans (hsub_pick [0] rfl)) ?_
  have e4 : xput segs size l n a false = (l, 2) := by simp [xput, *]
  rw [e4]
  exact ⟨g, hok, rfl, rfl⟩

theorem put18_m4 {w0 : World} {H : Hp} {l : Xl} {g : Option SlG} (hok : slOk 2 g l.length (lcs l)) (hl : l.length < 1000000) (segs size : Int) (n : Nat) (a : Int) (h0 : n ≠ 0) {s : Int} (ho : ofS segs size a = some s) (hf : xfind l n = none) : FnS Try.prog w0 77 #[slV g l.length, .int .i64 segs, .int .i64 size, .int .u64 (n : Int), .int .i64 a, .bool true] (slSeg 79 g (lcs l) :: H) (fun e H' => ∃ g2, slOk 2 g2 (xput segs size l n a true).1.length (lcs (xput segs size l n a true).1) ∧ e = .returned (.tuple #[slV g2 (xput segs size l n a true).1.length, .int .i64 (xput segs size l n a true).2]) ∧ H' = slSeg 79 g2 (lcs (xput segs size l n a true).1) :: H) := by
  have hs0 := (ofS_spec ho).2.2.2.2.1
  refine FnS_intro (n := 86) (rs := [.tmp 12, .tmp 13]) (vs := [slV g l.length, .int .i64 segs, .int .i64 size, .int .u64 (n : Int), .int .i64 a, .bool true]) Try.func77 rfl Try.ntmps77 rfl rfl ?_
  refine C_seq ?_
  refine C_region ?_
  refine L_y rfl (y_assign rfl) rfl ?_
  refine L_y rfl (y_assign rfl) rfl ?_
  refine L_nil ?_
  refine C_seq ?_
  refine C_seq ?_
  refine C_region ?_
  refine L_y rfl (y_move rfl) rfl ?_
  refine L_y rfl (y_eqi rfl rfl) rfl ?_
  refine L_nil ?_
  refine C_cond rfl (fun hc0 => absurd hc0 (by simp <;> omega)) (fun hc0 => ?_)
  refine C_skip ?_
  refine C_seq ?_
  refine C_seq ?_
  refine C_region ?_
  refine L_y rfl (y_move rfl) rfl ?_
  refine L_y rfl (y_move rfl) rfl ?_
  refine L_y rfl (y_move rfl) rfl ?_
  refine L_op rfl (op_call rfl rfl (fun a w => Try.call84 a w) rfl ?_)
  refine (seg18_s segs size a).mono ?_
  rintro _ _ ⟨rfl, e⟩
  obtain rfl := e.symm
  clear e
  rw [show seg18 segs size a = s from by unfold seg18; rw [ho]]
  refine ⟨_, rfl, ?_⟩
  refine L_y rfl (y_lss rfl rfl) rfl ?_
  refine L_nil ?_
  refine C_cond rfl (fun hc1 => absurd hc1 (by simp <;> omega)) (fun hc1 => ?_)
  refine C_skip ?_
  refine C_seq ?_
  refine C_region ?_
  refine L_y rfl (y_move rfl) rfl ?_
  refine L_y rfl (y_move rfl) rfl ?_
  refine L_op rfl (op_call rfl rfl (fun a w => Try.call38 a w) rfl ?_)
  refine (find18_s (g := g) hok hl n).mono ?_
  rintro _ _ ⟨rfl, rfl⟩
  rw [fnd_none hf]
  refine ⟨_, rfl, ?_⟩
  refine L_y rfl (y_assign rfl) rfl ?_
  refine L_nil ?_
  refine C_seq ?_
  refine C_seq ?_
  refine C_region ?_
  refine L_y rfl (y_move rfl) rfl ?_
  refine L_y rfl (y_move rfl) rfl ?_
  refine L_y rfl (y_move rfl) rfl ?_
  refine L_y rfl (y_lss rfl rfl) rfl ?_
  refine L_y rfl (y_pick_t rfl rfl) rfl ?_
  refine L_nil ?_
  refine C_cond_t rfl ?_
  refine C_seq ?_
  refine C_region ?_
  refine L_y rfl (y_move rfl) rfl ?_
  refine L_y rfl (y_assign rfl) rfl ?_
  refine L_y rfl (y_assign rfl) rfl ?_
  refine L_nil ?_
  refine C_ret ?_
  refine B_ret (rv_tmp rfl (rv_tmp rfl rv_nil)) ((hsub (.cons_cons _ (.refl _))).trans (hsub_pick [0] rfl)) ?_
  have e4 : xput segs size l n a true = (l, 4) := by simp [xput, *]
  rw [e4]
  exact ⟨g, hok, rfl, rfl⟩

theorem put18_p5 {w0 : World} {H : Hp} {l : Xl} {g : Option SlG} (hok : slOk 2 g l.length (lcs l)) (hl : l.length < 1000000) (segs size : Int) (n : Nat) (a : Int) (h0 : n ≠ 0) {s : Int} (ho : ofS segs size a = some s) {q : Int} {k : Nat} (hf : xfind l n = some q) (hk : fnd l n = (k : Int)) : FnS Try.prog w0 77 #[slV g l.length, .int .i64 segs, .int .i64 size, .int .u64 (n : Int), .int .i64 a, .bool false] (slSeg 79 g (lcs l) :: H) (fun e H' => ∃ g2, slOk 2 g2 (xput segs size l n a false).1.length (lcs (xput segs size l n a false).1) ∧ e = .returned (.tuple #[slV g2 (xput segs size l n a false).1.length, .int .i64 (xput segs size l n a false).2]) ∧ H' = slSeg 79 g2 (lcs (xput segs size l n a false).1) :: H) := by
  have hs0 := (ofS_spec ho).2.2.2.2.1
  refine FnS_intro (n := 86) (rs := [.tmp 12, .tmp 13]) (vs := [slV g l.length, .int .i64 segs, .int .i64 size, .int .u64 (n : Int), .int .i64 a, .bool false]) Try.func77 rfl Try.ntmps77 rfl rfl ?_
  refine C_seq ?_
  refine C_region ?_
  refine L_y rfl (y_assign rfl) rfl ?_
  refine L_y rfl (y_assign rfl) rfl ?_
  refine L_nil ?_
  refine C_seq ?_
  refine C_seq ?_
  refine C_region ?_
  refine L_y rfl (y_move rfl) rfl ?_
  refine L_y rfl (y_eqi rfl rfl) rfl ?_
  refine L_nil ?_
  refine C_cond rfl (fun hc0 => absurd hc0 (by simp <;> omega)) (fun hc0 => ?_)
  refine C_skip ?_
  refine C_seq ?_
  refine C_seq ?_
  refine C_region ?_
  refine L_y rfl (y_move rfl) rfl ?_
  refine L_y rfl (y_move rfl) rfl ?_
  refine L_y rfl (y_move rfl) rfl ?_
  refine L_op rfl (op_call rfl rfl (fun a w => Try.call84 a w) rfl ?_)
  refine (seg18_s segs size a).mono ?_
  rintro _ _ ⟨rfl, e⟩
  obtain rfl := e.symm
  clear e
  rw [show seg18 segs size a = s from by unfold seg18; rw [ho]]
  refine ⟨_, rfl, ?_⟩
  refine L_y rfl (y_lss rfl rfl) rfl ?_
  refine L_nil ?_
  refine C_cond rfl (fun hc1 => absurd hc1 (by simp <;> omega)) (fun hc1 => ?_)
  refine C_skip ?_
  refine C_seq ?_
  refine C_region ?_
  refine L_y rfl (y_move rfl) rfl ?_
  refine L_y rfl (y_move rfl) rfl ?_
  refine L_op rfl (op_call rfl rfl (fun a w => Try.call38 a w) rfl ?_)
  refine (find18_s (g := g) hok hl n).mono ?_
  rintro _ _ ⟨rfl, rfl⟩
  rw [hk]
  refine ⟨_, rfl, ?_⟩
  refine L_y rfl (y_assign rfl) rfl ?_
  refine L_nil ?_
  refine C_seq ?_
  refine C_seq ?_
  refine C_region ?_
  refine L_y rfl (y_move rfl) rfl ?_
  refine L_y rfl (y_move rfl) rfl ?_
  refine L_skip rfl rfl ?_
  refine L_skip rfl rfl ?_
  refine L_y rfl (y_pick_f rfl rfl) rfl ?_
  refine L_nil ?_
  refine C_cond_f rfl ?_
  refine C_skip ?_
  refine C_seq ?_
  refine C_seq ?_
  refine C_region ?_
  refine L_y rfl (y_move rfl) rfl ?_
  refine L_y rfl (y_not rfl) rfl ?_
  refine L_y rfl (y_move rfl) rfl ?_
  refine L_y rfl (y_move rfl) rfl ?_
  refine L_y rfl (y_geq rfl rfl) rfl ?_
  refine L_y rfl (y_pick_t rfl rfl) rfl ?_
  refine L_nil ?_
  refine C_cond rfl (fun hc3 => ?_) (fun hc3 => absurd hc3 (by simp))
  refine C_seq ?_
  refine C_region ?_
  refine L_y rfl (y_move rfl) rfl ?_
  refine L_y rfl (y_assign rfl) rfl ?_
  refine L_y rfl (y_assign rfl) rfl ?_
  refine L_nil ?_
  refine C_ret ?_
  refine B_ret (rv_tmp rfl (rv_tmp rfl rv_nil)) ((hsub (.cons_cons _ (.refl _))).trans (hsub_pick [0] rfl)) ?_
  have e4 : xput segs size l n a false = (l, 5) := by simp [xput, *]
  rw [e4]
  exact ⟨g, hok, rfl, rfl⟩

set_option maxHeartbeats 1000000 in

theorem put18_py {w0 : World} {H : Hp} {l : Xl} {g : Option SlG} (hok : slOk 2 g l.length (lcs l)) (hl : l.length < 1000000) (segs size : Int) (n : Nat) (a : Int) (h0 : n ≠ 0) {s : Int} (ho : ofS segs size a = some s) (hf : xfind l n = none) : FnS Try.prog w0 77 #[slV g l.length, .int .i64 segs, .int .i64 size, .int .u64 (n : Int), .int .i64 a, .bool false] (slSeg 79 g (lcs l) :: H) (fun e H' => ∃ g2, slOk 2 g2 (xput segs size l n a false).1.length (lcs (xput segs size l n a false).1) ∧ e = .returned (.tuple #[slV g2 (xput segs size l n a false).1.length, .int .i64 (xput segs size l n a false).2]) ∧ H' = slSeg 79 g2 (lcs (xput segs size l n a false).1) :: H) := by
  have hs0 := (ofS_spec ho).2.2.2.2.1
  refine FnS_intro (n := 86) (rs := [.tmp 12, .tmp 13]) (vs := [slV g l.length, .int .i64 segs, .int .i64 size, .int .u64 (n : Int), .int .i64 a, .bool false]) Try.func77 rfl Try.ntmps77 rfl rfl ?_
  refine C_seq ?_
  refine C_region ?_
  refine L_y rfl (y_assign rfl) rfl ?_
  refine L_y rfl (y_assign rfl) rfl ?_
  refine L_nil ?_
  refine C_seq ?_
  refine C_seq ?_
  refine C_region ?_
  refine L_y rfl (y_move rfl) rfl ?_
  refine L_y rfl (y_eqi rfl rfl) rfl ?_
  refine L_nil ?_
  refine C_cond rfl (fun hc0 => absurd hc0 (by simp <;> omega)) (fun hc0 => ?_)
  refine C_skip ?_
  refine C_seq ?_
  refine C_seq ?_
  refine C_region ?_
  refine L_y rfl (y_move rfl) rfl ?_
  refine L_y rfl (y_move rfl) rfl ?_
  refine L_y rfl (y_move rfl) rfl ?_
  refine L_op rfl (op_call rfl rfl (fun a w => Try.call84 a w) rfl ?_)
  refine (seg18_s segs size a).mono ?_
  rintro _ _ ⟨rfl, e⟩
  obtain rfl := e.symm
  clear e
  rw [show seg18 segs size a = s from by unfold seg18; rw [ho]]
  refine ⟨_, rfl, ?_⟩
  refine L_y rfl (y_lss rfl rfl) rfl ?_
  refine L_nil ?_
  refine C_cond rfl (fun hc1 => absurd hc1 (by simp <;> omega)) (fun hc1 => ?_)
  refine C_skip ?_
  refine C_seq ?_
  refine C_region ?_
  refine L_y rfl (y_move rfl) rfl ?_
  refine L_y rfl (y_move rfl) rfl ?_
  refine L_op rfl (op_call rfl rfl (fun a w => Try.call38 a w) rfl ?_)
  refine (find18_s (g := g) hok hl n).mono ?_
  rintro _ _ ⟨rfl, rfl⟩
  rw [fnd_none hf]
  refine ⟨_, rfl, ?_⟩
  refine L_y rfl (y_assign rfl) rfl ?_
  refine L_nil ?_
  refine C_seq ?_
  refine C_seq ?_
  refine C_region ?_
  refine L_y rfl (y_move rfl) rfl ?_
  refine L_y rfl (y_move rfl) rfl ?_
  refine L_skip rfl rfl ?_
  refine L_skip rfl rfl ?_
  refine L_y rfl (y_pick_f rfl rfl) rfl ?_
  refine L_nil ?_
  refine C_cond_f rfl ?_
  refine C_skip ?_
  refine C_seq ?_
  refine C_seq ?_
  refine C_region ?_
  refine L_y rfl (y_move rfl) rfl ?_
  refine L_y rfl (y_not rfl) rfl ?_
  refine L_y rfl (y_move rfl) rfl ?_
  refine L_y rfl (y_move rfl) rfl ?_
  refine L_y rfl (y_geq rfl rfl) rfl ?_
  refine L_y rfl (y_pick_t rfl rfl) rfl ?_
  refine L_nil ?_
  refine C_cond_f rfl ?_
  refine C_skip ?_
  refine C_seq ?_
  refine C_seq ?_
  refine C_region ?_
  refine L_y rfl (y_move rfl) rfl ?_
  refine L_nil ?_
  refine C_cond_f rfl ?_
  refine C_skip ?_
  refine C_seq ?_
  refine C_region ?_
  refine L_y rfl (y_assign rfl) rfl ?_
  refine L_nil ?_
  refine C_seq ?_
  refine C_region ?_
  refine L_y rfl (y_assign rfl) rfl ?_
  refine L_nil ?_
  refine C_seq ?_
  refine C_seq ?_
  refine C_region ?_
  refine L_y rfl (y_assign rfl) rfl ?_
  refine L_nil ?_
  refine C_block ?_
  refine C_loop (ι := Nat × Option SlG) (fun i => [(0, slV g l.length), (3, .int .u64 (n : Int)), (4, .int .i64 a), (15, slV i.2 (outI l n a i.1).length), (16, .bool (big l n i.1)), (17, .int .i64 (i.1 : Int))]) (fun i => slSeg 79 i.2 (lcs (outI l n a i.1)) :: slSeg 79 g (lcs l) :: H) (fun i => i.1 ≤ l.length ∧ slOk 2 i.2 (outI l n a i.1).length (lcs (outI l n a i.1))) (fun i => l.length - i.1) (0, none) ⟨Nat.zero_le _, by rw [outI_0]; exact ⟨rfl, rfl⟩⟩ (by rw [outI_0]; exact ⟨rfl, rfl, rfl, rfl, rfl, rfl, trivial⟩) (by rw [outI_0]; exact hsub_flat rfl) (fun i hi => ?_)
  obtain ⟨i, g3⟩ := i
  obtain ⟨hi, hok3⟩ := hi
  try simp only at hi hok3
  try dsimp only
  refine C_seq ?_
  refine C_seq ?_
  refine C_region ?_
  refine L_y rfl (y_move rfl) rfl ?_
  refine L_y rfl (y_move rfl) rfl ?_
  refine L_y rfl (y_lenV hok rfl rfl Try.underlying67) rfl ?_
  refine L_y rfl (y_lss rfl rfl) rfl ?_
  refine L_nil ?_
  refine C_cond rfl (fun hc5 => ?_) (fun hc5 => ?_)
  · replace hc5 : i < l.length := by have := of_decide_eq_true hc5; omega
    obtain ⟨x, hx⟩ : ∃ x, l[i]? = some x := ⟨_, List.getElem?_eq_getElem hc5⟩
    cases g with
    | none => exact absurd (show l.length = 0 from hok.2) (by omega)
    | some g => ?_
    refine C_skip ?_
    refine C_seq ?_
    refine C_block ?_
    refine C_seq ?_
    refine C_seq ?_
    refine C_region ?_
    refine L_y rfl (y_move rfl) rfl ?_
    refine L_y rfl (y_not rfl) rfl ?_
    refine L_y rfl (y_move rfl) rfl ?_
    refine L_case 55 rfl (fun hg17_3 => ?_) (fun hg17_3 => ?_)
    · have hb : big l n i = false := by simpa using hg17_3
      refine L_y rfl (y_move rfl) rfl ?_
      refine L_y rfl (y_move rfl) rfl ?_
      refine L_y rfl (y_indexS rfl rfl Try.underlying67 sz_79 (by omega) (by omega) (show _ = i * 2 from by simp)) rfl ?_
      refine L_y rfl (y_fieldAddr rfl fl_79_0) rfl ?_
      refine L_y rfl (y_load rfl ag_58 (sees 1 0 rfl) (lcs_at hx).1) rfl ?_
      refine L_y rfl (y_move rfl) rfl ?_
      refine L_y rfl (y_gtr rfl rfl) rfl ?_
      refine L_y rfl (y_pick_t rfl rfl) rfl ?_
      refine L_nil ?_
      refine C_cond rfl (fun hc6 => ?_) (fun hc6 => ?_)
      · have hlt : n < x.1 := by have := of_decide_eq_true hc6; omega
        refine C_seq ?_
        refine C_region ?_
        refine L_y rfl (y_move rfl) rfl ?_
        refine L_y rfl (y_move rfl) rfl ?_
        refine L_y rfl (y_move rfl) rfl ?_
        refine L_y rfl (y_build (vs := [(0, _), (1, _)]) (l := [.int .u64 (n : Int), .int .i64 a]) rfl pl_79 zl_79 (fill_cons (off := 0) (m := 1) (vs := [_]) rfl rfl rfl (Nat.le_of_ble_eq_true rfl) (fill_cons (off := 1) (m := 1) (vs := [_]) rfl rfl rfl (Nat.le_of_ble_eq_true rfl) rfl))) rfl ?_
        refine L_op rfl (op_buildSlice (vs := [(0, _)]) rfl Try.underlying67 sz_79 zl_79 rfl (by decide) (fill_one rfl rfl rfl) rfl (fun B1 => ?_))
        refine L_op rfl (op_append (gs := g3) (len := ((outI l n a i)).length) (m := 1) (xs := lcs ((outI l n a i))) (vs := lcs [(n, a)]) 1 rfl rfl rfl hok3 (src_slice (sees 0 0 rfl) (Nat.le_of_ble_eq_true rfl) rfl) rfl (lcs_one _) Try.underlying67 ni_67 sz_79 by_79 (by decide) zl_79 rfl (by have := out_len (n := n) (a := a) hi; first | omega | (simp only [List.length_append, List.length_cons, List.length_nil]; omega)) rfl (fun g4 hg4 => ?_))
        rw [← lcs_append, show ((outI l n a i)).length + 1 = ((outI l n a i) ++ [(n, a)]).length from by simp] at hg4 ⊢
        refine L_y rfl (y_assign rfl) rfl ?_
        refine L_nil ?_
        refine C_region ?_
        refine L_y rfl (y_assign rfl) rfl ?_
        refine L_nil ?_
        refine C_region ?_
        refine L_y rfl (y_move rfl) rfl ?_
        refine L_y rfl (y_move rfl) rfl ?_
        refine L_y rfl (y_move rfl) rfl ?_
        refine L_y rfl (y_indexS rfl rfl Try.underlying67 sz_79 (by omega) (by omega) (show _ = i * 2 from by simp)) rfl ?_
        refine L_y rfl (y_loadA rfl ag_79 sz_79 (sees 2 0 rfl) (by rw [List.length_append, lcs_len]; omega) (lcs_at hx).2.2) rfl ?_
        refine L_op rfl (op_buildSlice (vs := [(0, _)]) rfl Try.underlying67 sz_79 zl_79 rfl (by decide) (fill_one rfl rfl rfl) rfl (fun B2 => ?_))
        refine L_op rfl (op_append (gs := g4) (len := ((outI l n a i) ++ [(n, a)]).length) (m := 1) (xs := lcs ((outI l n a i) ++ [(n, a)])) (vs := lcs [x]) 2 rfl rfl rfl hg4 (src_slice (sees 0 0 rfl) (Nat.le_of_ble_eq_true rfl) rfl) rfl (lcs_one _) Try.underlying67 ni_67 sz_79 by_79 (by decide) zl_79 rfl (by have := out_len (n := n) (a := a) hi; first | omega | (simp only [List.length_append, List.length_cons, List.length_nil]; omega)) rfl (fun g5 hg5 => ?_))
        rw [← lcs_append, show ((outI l n a i) ++ [(n, a)]).length + 1 = ((outI l n a i) ++ [(n, a)] ++ [x]).length from by simp] at hg5 ⊢
        refine L_y rfl (y_assign rfl) rfl ?_
        refine L_nil ?_
        refine C_region ?_
        refine L_y rfl (y_move rfl) rfl ?_
        refine L_y rfl (y_add rfl rfl (show _ = ((i + 1 : Nat) : Int) from by rw [wi64 (by omega) (by omega)]; omega)) rfl ?_
        refine L_y rfl (y_assign rfl) rfl ?_
        refine L_nil ?_
        have e1 : big l n (i + 1) = true := by rw [big_next hx, decide_eq_true hlt, Bool.or_true]
        have e2 := out_first (a := a) hb hx hlt
        refine ⟨(i + 1, g5), ⟨by simp only; omega, ?_⟩, by simp only; omega, ?_⟩ <;> try simp only
        · rw [e2]; exact hg5
        · rw [e1, e2]
          exact ⟨⟨rfl, rfl, rfl, rfl, rfl, rfl, trivial⟩, ((hsub (.cons_cons _ (.cons_cons _ (.cons _ (.cons _ (.refl _)))))).trans (hsub_pick [2, 2] rfl))⟩
      · have hlt : ¬ n < x.1 := by have := of_decide_eq_false hc6; omega
        refine C_skip ?_
        refine C_region ?_
        refine L_y rfl (y_move rfl) rfl ?_
        refine L_y rfl (y_move rfl) rfl ?_
        refine L_y rfl (y_move rfl) rfl ?_
        refine L_y rfl (y_indexS rfl rfl Try.underlying67 sz_79 (by omega) (by omega) (show _ = i * 2 from by simp)) rfl ?_
        refine L_y rfl (y_loadA rfl ag_79 sz_79 (sees 1 0 rfl) (by rw [List.length_append, lcs_len]; omega) (lcs_at hx).2.2) rfl ?_
        refine L_op rfl (op_buildSlice (vs := [(0, _)]) rfl Try.underlying67 sz_79 zl_79 rfl (by decide) (fill_one rfl rfl rfl) rfl (fun B3 => ?_))
        refine L_op rfl (op_append (gs := g3) (len := ((outI l n a i)).length) (m := 1) (xs := lcs ((outI l n a i))) (vs := lcs [x]) 1 rfl rfl rfl hok3 (src_slice (sees 0 0 rfl) (Nat.le_of_ble_eq_true rfl) rfl) rfl (lcs_one _) Try.underlying67 ni_67 sz_79 by_79 (by decide) zl_79 rfl (by have := out_len (n := n) (a := a) hi; first | omega | (simp only [List.length_append, List.length_cons, List.length_nil]; omega)) rfl (fun g5 hg5 => ?_))
        rw [← lcs_append, show ((outI l n a i)).length + 1 = ((outI l n a i) ++ [x]).length from by simp] at hg5 ⊢
        refine L_y rfl (y_assign rfl) rfl ?_
        refine L_nil ?_
        refine C_region ?_
        refine L_y rfl (y_move rfl) rfl ?_
        refine L_y rfl (y_add rfl rfl (show _ = ((i + 1 : Nat) : Int) from by rw [wi64 (by omega) (by omega)]; omega)) rfl ?_
        refine L_y rfl (y_assign rfl) rfl ?_
        refine L_nil ?_
        have e1 : big l n (i + 1) = big l n i := by rw [big_next hx]; first | rw [decide_eq_false hlt, Bool.or_false] | (rw [hb]; rfl)
        have e2 : (outI l n a (i + 1)) = (outI l n a i) ++ [x] := by first | exact out_more hb hx | exact out_not hb hx hlt
        refine ⟨(i + 1, g5), ⟨by simp only; omega, ?_⟩, by simp only; omega, ?_⟩ <;> try simp only
        · rw [e2]; exact hg5
        · rw [e1, e2]
          exact ⟨⟨rfl, rfl, rfl, rfl, rfl, rfl, trivial⟩, ((hsub (.cons_cons _ (.cons_cons _ (.cons _ (.refl _))))).trans (hsub_pick [1, 1] rfl))⟩
    · have hb : big l n i = true := by simpa using hg17_3
      refine L_skip rfl rfl ?_
      refine L_skip rfl rfl ?_
      refine L_skip rfl rfl ?_
      refine L_skip rfl rfl ?_
      refine L_skip rfl rfl ?_
      refine L_skip rfl rfl ?_
      refine L_skip rfl rfl ?_
      refine L_y rfl (y_pick_f rfl rfl) rfl ?_
      refine L_nil ?_
      refine C_cond_f rfl ?_
      refine C_skip ?_
      refine C_region ?_
      refine L_y rfl (y_move rfl) rfl ?_
      refine L_y rfl (y_move rfl) rfl ?_
      refine L_y rfl (y_move rfl) rfl ?_
      refine L_y rfl (y_indexS rfl rfl Try.underlying67 sz_79 (by omega) (by omega) (show _ = i * 2 from by simp)) rfl ?_
      refine L_y rfl (y_loadA rfl ag_79 sz_79 (sees 1 0 rfl) (by rw [List.length_append, lcs_len]; omega) (lcs_at hx).2.2) rfl ?_
      refine L_op rfl (op_buildSlice (vs := [(0, _)]) rfl Try.underlying67 sz_79 zl_79 rfl (by decide) (fill_one rfl rfl rfl) rfl (fun B4 => ?_))
      refine L_op rfl (op_append (gs := g3) (len := ((outI l n a i)).length) (m := 1) (xs := lcs ((outI l n a i))) (vs := lcs [x]) 1 rfl rfl rfl hok3 (src_slice (sees 0 0 rfl) (Nat.le_of_ble_eq_true rfl) rfl) rfl (lcs_one _) Try.underlying67 ni_67 sz_79 by_79 (by decide) zl_79 rfl (by have := out_len (n := n) (a := a) hi; first | omega | (simp only [List.length_append, List.length_cons, List.length_nil]; omega)) rfl (fun g5 hg5 => ?_))
      rw [← lcs_append, show ((outI l n a i)).length + 1 = ((outI l n a i) ++ [x]).length from by simp] at hg5 ⊢
      refine L_y rfl (y_assign rfl) rfl ?_
      refine L_nil ?_
      refine C_region ?_
      refine L_y rfl (y_move rfl) rfl ?_
      refine L_y rfl (y_add rfl rfl (show _ = ((i + 1 : Nat) : Int) from by rw [wi64 (by omega) (by omega)]; omega)) rfl ?_
      refine L_y rfl (y_assign rfl) rfl ?_
      refine L_nil ?_
      have e1 : big l n (i + 1) = big l n i := by rw [big_next hx]; first | rw [decide_eq_false hlt, Bool.or_false] | (rw [hb]; rfl)
      have e2 : (outI l n a (i + 1)) = (outI l n a i) ++ [x] := by first | exact out_more hb hx | exact out_not hb hx hlt
      refine ⟨(i + 1, g5), ⟨by simp only; omega, ?_⟩, by simp only; omega, ?_⟩ <;> try simp only
      · rw [e2]; exact hg5
      · rw [e1, e2]
        exact ⟨⟨rfl, rfl, rfl, rfl, rfl, rfl, trivial⟩, ((hsub (.cons_cons _ (.cons_cons _ (.cons _ (.refl _))))).trans (hsub_pick [1, 1] rfl))⟩
  · obtain rfl : i = l.length := by have := of_decide_eq_false hc5; omega
    refine C_exit ?_
    refine C_seq ?_
    refine C_seq ?_
    refine C_region ?_
    refine L_y rfl (y_move rfl) rfl ?_
    refine L_y rfl (y_not rfl) rfl ?_
    refine L_nil ?_
    refine C_cond rfl (fun hc7 => ?_) (fun hc7 => ?_)
    · have hb : big l n l.length = false := by simpa using hc7
      refine C_region ?_
      refine L_y rfl (y_move rfl) rfl ?_
      refine L_y rfl (y_move rfl) rfl ?_
      refine L_y rfl (y_move rfl) rfl ?_
      refine L_y rfl (y_build (vs := [(0, _), (1, _)]) (l := [.int .u64 (n : Int), .int .i64 a]) rfl pl_79 zl_79 (fill_cons (off := 0) (m := 1) (vs := [_]) rfl rfl rfl (Nat.le_of_ble_eq_true rfl) (fill_cons (off := 1) (m := 1) (vs := [_]) rfl rfl rfl (Nat.le_of_ble_eq_true rfl) rfl))) rfl ?_
      refine L_op rfl (op_buildSlice (vs := [(0, _)]) rfl Try.underlying67 sz_79 zl_79 rfl (by decide) (fill_one rfl rfl rfl) rfl (fun B5 => ?_))
      refine L_op rfl (op_append (gs := g3) (len := ((outI l n a l.length)).length) (m := 1) (xs := lcs ((outI l n a l.length))) (vs := lcs [(n, a)]) 1 rfl rfl rfl hok3 (src_slice (sees 0 0 rfl) (Nat.le_of_ble_eq_true rfl) rfl) rfl (lcs_one _) Try.underlying67 ni_67 sz_79 by_79 (by decide) zl_79 rfl (by have := out_len (n := n) (a := a) hi; first | omega | (simp only [List.length_append, List.length_cons, List.length_nil]; omega)) rfl (fun g4 hg4 => ?_))
      rw [← lcs_append, show ((outI l n a l.length)).length + 1 = ((outI l n a l.length) ++ [(n, a)]).length from by simp] at hg4 ⊢
      refine L_y rfl (y_assign rfl) rfl ?_
      refine L_nil ?_
      refine C_seq ?_
      refine C_region ?_
      refine L_y rfl (y_move rfl) rfl ?_
      refine L_y rfl (y_assign rfl) rfl ?_
      refine L_y rfl (y_assign rfl) rfl ?_
      refine L_nil ?_
      refine C_ret ?_
      refine B_ret (rv_tmp rfl (rv_tmp rfl rv_nil)) ((hsub (.cons_cons _ (.cons _ (.cons _ (.refl _))))).trans (hsub_pick [1] rfl)) ?_
      have e4 : xput segs size l n a false = (xins l n a, 0) := by simp [xput, *]
      rw [e4]
      have e6 := out_end (a := a) hb
      rw [e6] at hg4
      refine ⟨g4, hg4, ?_, ?_⟩
      · rw [e6] <;> rfl
      · rw [e6] <;> rfl
    · have hb : big l n l.length = true := by simpa using hc7
      refine C_skip ?_
      refine C_seq ?_
      refine C_region ?_
      refine L_y rfl (y_move rfl) rfl ?_
      refine L_y rfl (y_assign rfl) rfl ?_
      refine L_y rfl (y_assign rfl) rfl ?_
      refine L_nil ?_
      refine C_ret ?_
      refine B_ret (rv_tmp rfl (rv_tmp rfl rv_nil)) ((hsub (.cons_cons _ (.cons _ (.refl _)))).trans (hsub_pick [0] rfl)) ?_
      have e4 : xput segs size l n a false = (xins l n a, 0) := by simp [xput, *]
      rw [e4]
      have e6 := out_done (a := a) hb
      rw [e6] at hok3
      refine ⟨g3, hok3, ?_, ?_⟩
      · rw [e6] <;> rfl
      · rw [e6] <;> rfl

set_option maxHeartbeats 1000000 in

theorem put18_my {w0 : World} {H : Hp} {l : Xl} {g : SlG} (hok : slOk 2 (some g) l.length (lcs l)) (hl : l.length < 1000000) (segs size : Int) (n : Nat) (a : Int) (h0 : n ≠ 0) {s : Int} (ho : ofS segs size a = some s) {q : Int} {k : Nat} (hf : xfind l n = some q) (hk : fnd l n = (k : Int)) (hkl : k < l.length) (hdel : xdel l n = l.take k ++ l.drop (k + 1)) : FnS Try.prog w0 77 #[slV (some g) l.length, .int .i64 segs, .int .i64 size, .int .u64 (n : Int), .int .i64 a, .bool true] (slSeg 79 (some g) (lcs l) :: H) (fun e H' => ∃ g2, slOk 2 g2 (xput segs size l n a true).1.length (lcs (xput segs size l n a true).1) ∧ e = .returned (.tuple #[slV g2 (xput segs size l n a true).1.length, .int .i64 (xput segs size l n a true).2]) ∧ H' = slSeg 79 g2 (lcs (xput segs size l n a true).1) :: H) := by
  have hs0 := (ofS_spec ho).2.2.2.2.1
  have hdl : (xdel l n).length ≤ l.length := List.length_filter_le _ _
  refine FnS_intro (n := 86) (rs := [.tmp 12, .tmp 13]) (vs := [slV (some g) l.length, .int .i64 segs, .int .i64 size, .int .u64 (n : Int), .int .i64 a, .bool true]) Try.func77 rfl Try.ntmps77 rfl rfl ?_
  refine C_seq ?_
  refine C_region ?_
  refine L_y rfl (y_assign rfl) rfl ?_
  refine L_y rfl (y_assign rfl) rfl ?_
  refine L_nil ?_
  refine C_seq ?_
  refine C_seq ?_
  refine C_region ?_
  refine L_y rfl (y_move rfl) rfl ?_
  refine L_y rfl (y_eqi rfl rfl) rfl ?_
  refine L_nil ?_
  refine C_cond rfl (fun hc0 => absurd hc0 (by simp <;> omega)) (fun hc0 => ?_)
  refine C_skip ?_
  refine C_seq ?_
  refine C_seq ?_
  refine C_region ?_
  refine L_y rfl (y_move rfl) rfl ?_
  refine L_y rfl (y_move rfl) rfl ?_
  refine L_y rfl (y_move rfl) rfl ?_
  refine L_op rfl (op_call rfl rfl (fun a w => Try.call84 a w) rfl ?_)
  refine (seg18_s segs size a).mono ?_
  rintro _ _ ⟨rfl, e⟩
  obtain rfl := e.symm
  clear e
  rw [show seg18 segs size a = s from by unfold seg18; rw [ho]]
  refine ⟨_, rfl, ?_⟩
  refine L_y rfl (y_lss rfl rfl) rfl ?_
  refine L_nil ?_
  refine C_cond rfl (fun hc1 => absurd hc1 (by simp <;> omega)) (fun hc1 => ?_)
  refine C_skip ?_
  refine C_seq ?_
  refine C_region ?_
  refine L_y rfl (y_move rfl) rfl ?_
  refine L_y rfl (y_move rfl) rfl ?_
  refine L_op rfl (op_call rfl rfl (fun a w => Try.call38 a w) rfl ?_)
  refine (find18_s (g := (some g)) hok hl n).mono ?_
  rintro _ _ ⟨rfl, rfl⟩
  rw [hk]
  refine ⟨_, rfl, ?_⟩
  refine L_y rfl (y_assign rfl) rfl ?_
  refine L_nil ?_
  refine C_seq ?_
  refine C_seq ?_
  refine C_region ?_
  refine L_y rfl (y_move rfl) rfl ?_
  refine L_y rfl (y_move rfl) rfl ?_
  refine L_y rfl (y_move rfl) rfl ?_
  refine L_y rfl (y_lss rfl rfl) rfl ?_
  refine L_y rfl (y_pick_t rfl rfl) rfl ?_
  refine L_nil ?_
  refine C_cond rfl (fun hc2 => absurd hc2 (by simp)) (fun hc2 => ?_)
  refine C_skip ?_
  refine C_seq ?_
  refine C_seq ?_
  refine C_region ?_
  refine L_y rfl (y_move rfl) rfl ?_
  refine L_y rfl (y_not rfl) rfl ?_
  refine L_y rfl (y_move rfl) rfl ?_
  refine L_skip rfl rfl ?_
  refine L_skip rfl rfl ?_
  refine L_y rfl (y_pick_f rfl rfl) rfl ?_
  refine L_nil ?_
  refine C_cond_f rfl ?_
  refine C_skip ?_
  refine C_seq ?_
  refine C_seq ?_
  refine C_region ?_
  refine L_y rfl (y_move rfl) rfl ?_
  refine L_nil ?_
  refine C_cond_t rfl ?_
  refine C_region ?_
  refine L_y rfl (y_move rfl) rfl ?_
  refine L_y rfl (y_move rfl) rfl ?_
  refine L_op rfl (op_call rfl rfl (fun a w => Try.call97 a w) rfl ?_)
  refine (without18_s hok hl k hkl).mono ?_
  rintro _ _ ⟨gw, hgw, rfl, rfl⟩
  rw [← hdel] at hgw ⊢
  refine ⟨_, rfl, ?_⟩
  refine L_y rfl (y_assign rfl) rfl ?_
  refine L_nil ?_
  refine C_seq ?_
  refine C_region ?_
  refine L_y rfl (y_assign rfl) rfl ?_
  refine L_nil ?_
  refine C_seq ?_
  refine C_region ?_
  refine L_y rfl (y_assign rfl) rfl ?_
  refine L_nil ?_
  refine C_seq ?_
  refine C_seq ?_
  refine C_region ?_
  refine L_y rfl (y_assign rfl) rfl ?_
  refine L_nil ?_
  refine C_block ?_
  refine C_loop (ι := Nat × Option SlG) (fun i => [(0, slV gw (xdel l n).length), (3, .int .u64 (n : Int)), (4, .int .i64 a), (15, slV i.2 (outI (xdel l n) n a i.1).length), (16, .bool (big (xdel l n) n i.1)), (17, .int .i64 (i.1 : Int))]) (fun i => slSeg 79 i.2 (lcs (outI (xdel l n) n a i.1)) :: slSeg 79 gw (lcs (xdel l n)) :: slSeg 79 (some g) (lcs l) :: H) (fun i => i.1 ≤ (xdel l n).length ∧ slOk 2 i.2 (outI (xdel l n) n a i.1).length (lcs (outI (xdel l n) n a i.1))) (fun i => (xdel l n).length - i.1) (0, none) ⟨Nat.zero_le _, by rw [outI_0]; exact ⟨rfl, rfl⟩⟩ (by rw [outI_0]; exact ⟨rfl, rfl, rfl, rfl, rfl, rfl, trivial⟩) (by rw [outI_0]; exact hsub_flat rfl) (fun i hi => ?_)
  obtain ⟨i, g3⟩ := i
  obtain ⟨hi, hok3⟩ := hi
  try simp only at hi hok3
  try dsimp only
  refine C_seq ?_
  refine C_seq ?_
  refine C_region ?_
  refine L_y rfl (y_move rfl) rfl ?_
  refine L_y rfl (y_move rfl) rfl ?_
  refine L_y rfl (y_lenV hgw rfl rfl Try.underlying67) rfl ?_
  refine L_y rfl (y_lss rfl rfl) rfl ?_
  refine L_nil ?_
  refine C_cond rfl (fun hc5 => ?_) (fun hc5 => ?_)
  · replace hc5 : i < (xdel l n).length := by have := of_decide_eq_true hc5; omega
    obtain ⟨x, hx⟩ : ∃ x, (xdel l n)[i]? = some x := ⟨_, List.getElem?_eq_getElem hc5⟩
    cases gw with
    | none => exact absurd (show (xdel l n).length = 0 from hgw.2) (by omega)
    | some gw => ?_
    refine C_skip ?_
    refine C_seq ?_
    refine C_block ?_
    refine C_seq ?_
    refine C_seq ?_
    refine C_region ?_
    refine L_y rfl (y_move rfl) rfl ?_
    refine L_y rfl (y_not rfl) rfl ?_
    refine L_y rfl (y_move rfl) rfl ?_
    refine L_case 55 rfl (fun hg17_3 => ?_) (fun hg17_3 => ?_)
    · have hb : big (xdel l n) n i = false := by simpa using hg17_3
      refine L_y rfl (y_move rfl) rfl ?_
      refine L_y rfl (y_move rfl) rfl ?_
      refine L_y rfl (y_indexS rfl rfl Try.underlying67 sz_79 (by omega) (by omega) (show _ = i * 2 from by simp)) rfl ?_
      refine L_y rfl (y_fieldAddr rfl fl_79_0) rfl ?_
      refine L_y rfl (y_load rfl ag_58 (sees 1 0 rfl) (lcs_at hx).1) rfl ?_
      refine L_y rfl (y_move rfl) rfl ?_
      refine L_y rfl (y_gtr rfl rfl) rfl ?_
      refine L_y rfl (y_pick_t rfl rfl) rfl ?_
      refine L_nil ?_
      refine C_cond rfl (fun hc6 => ?_) (fun hc6 => ?_)
      · have hlt : n < x.1 := by have := of_decide_eq_true hc6; omega
        refine C_seq ?_
        refine C_region ?_
        refine L_y rfl (y_move rfl) rfl ?_
        refine L_y rfl (y_move rfl) rfl ?_
        refine L_y rfl (y_move rfl) rfl ?_
        refine L_y rfl (y_build (vs := [(0, _), (1, _)]) (l := [.int .u64 (n : Int), .int .i64 a]) rfl pl_79 zl_79 (fill_cons (off := 0) (m := 1) (vs := [_]) rfl rfl rfl (Nat.le_of_ble_eq_true rfl) (fill_cons (off := 1) (m := 1) (vs := [_]) rfl rfl rfl (Nat.le_of_ble_eq_true rfl) rfl))) rfl ?_
        refine L_op rfl (op_buildSlice (vs := [(0, _)]) rfl Try.underlying67 sz_79 zl_79 rfl (by decide) (fill_one rfl rfl rfl) rfl (fun B1 => ?_))
        refine L_op rfl (op_append (gs := g3) (len := ((outI (xdel l n) n a i)).length) (m := 1) (xs := lcs ((outI (xdel l n) n a i))) (vs := lcs [(n, a)]) 1 rfl rfl rfl hok3 (src_slice (sees 0 0 rfl) (Nat.le_of_ble_eq_true rfl) rfl) rfl (lcs_one _) Try.underlying67 ni_67 sz_79 by_79 (by decide) zl_79 rfl (by have := out_len (n := n) (a := a) hi; first | omega | (simp only [List.length_append, List.length_cons, List.length_nil]; omega)) rfl (fun g4 hg4 => ?_))
        rw [← lcs_append, show ((outI (xdel l n) n a i)).length + 1 = ((outI (xdel l n) n a i) ++ [(n, a)]).length from by simp] at hg4 ⊢
        refine L_y rfl (y_assign rfl) rfl ?_
        refine L_nil ?_
        refine C_region ?_
        refine L_y rfl (y_assign rfl) rfl ?_
        refine L_nil ?_
        refine C_region ?_
        refine L_y rfl (y_move rfl) rfl ?_
        refine L_y rfl (y_move rfl) rfl ?_
        refine L_y rfl (y_move rfl) rfl ?_
        refine L_y rfl (y_indexS rfl rfl Try.underlying67 sz_79 (by omega) (by omega) (show _ = i * 2 from by simp)) rfl ?_
        refine L_y rfl (y_loadA rfl ag_79 sz_79 (sees 2 0 rfl) (by rw [List.length_append, lcs_len]; omega) (lcs_at hx).2.2) rfl ?_
        refine L_op rfl (op_buildSlice (vs := [(0, _)]) rfl Try.underlying67 sz_79 zl_79 rfl (by decide) (fill_one rfl rfl rfl) rfl (fun B2 => ?_))
        refine L_op rfl (op_append (gs := g4) (len := ((outI (xdel l n) n a i) ++ [(n, a)]).length) (m := 1) (xs := lcs ((outI (xdel l n) n a i) ++ [(n, a)])) (vs := lcs [x]) 2 rfl rfl rfl hg4 (src_slice (sees 0 0 rfl) (Nat.le_of_ble_eq_true rfl) rfl) rfl (lcs_one _) Try.underlying67 ni_67 sz_79 by_79 (by decide) zl_79 rfl (by have := out_len (n := n) (a := a) hi; first | omega | (simp only [List.length_append, List.length_cons, List.length_nil]; omega)) rfl (fun g5 hg5 => ?_))
        rw [← lcs_append, show ((outI (xdel l n) n a i) ++ [(n, a)]).length + 1 = ((outI (xdel l n) n a i) ++ [(n, a)] ++ [x]).length from by simp] at hg5 ⊢
        refine L_y rfl (y_assign rfl) rfl ?_
        refine L_nil ?_
        refine C_region ?_
        refine L_y rfl (y_move rfl) rfl ?_
        refine L_y rfl (y_add rfl rfl (show _ = ((i + 1 : Nat) : Int) from by rw [wi64 (by omega) (by omega)]; omega)) rfl ?_
        refine L_y rfl (y_assign rfl) rfl ?_
        refine L_nil ?_
        have e1 : big (xdel l n) n (i + 1) = true := by rw [big_next hx, decide_eq_true hlt, Bool.or_true]
        have e2 := out_first (a := a) hb hx hlt
        refine ⟨(i + 1, g5), ⟨by simp only; omega, ?_⟩, by simp only; omega, ?_⟩ <;> try simp only
        · rw [e2]; exact hg5
        · rw [e1, e2]
          exact ⟨⟨rfl, rfl, rfl, rfl, rfl, rfl, trivial⟩, ((hsub (.cons_cons _ (.cons_cons _ (.cons_cons _ (.cons _ (.cons _ (.refl _))))))).trans (hsub_pick [2, 2, 2] rfl))⟩
      · have hlt : ¬ n < x.1 := by have := of_decide_eq_false hc6; omega
        refine C_skip ?_
        refine C_region ?_
        refine L_y rfl (y_move rfl) rfl ?_
        refine L_y rfl (y_move rfl) rfl ?_
        refine L_y rfl (y_move rfl) rfl ?_
        refine L_y rfl (y_indexS rfl rfl Try.underlying67 sz_79 (by omega) (by omega) (show _ = i * 2 from by simp)) rfl ?_
        refine L_y rfl (y_loadA rfl ag_79 sz_79 (sees 1 0 rfl) (by rw [List.length_append, lcs_len]; omega) (lcs_at hx).2.2) rfl ?_
        refine L_op rfl (op_buildSlice (vs := [(0, _)]) rfl Try.underlying67 sz_79 zl_79 rfl (by decide) (fill_one rfl rfl rfl) rfl (fun B3 => ?_))
        refine L_op rfl (op_append (gs := g3) (len := ((outI (xdel l n) n a i)).length) (m := 1) (xs := lcs ((outI (xdel l n) n a i))) (vs := lcs [x]) 1 rfl rfl rfl hok3 (src_slice (sees 0 0 rfl) (Nat.le_of_ble_eq_true rfl) rfl) rfl (lcs_one _) Try.underlying67 ni_67 sz_79 by_79 (by decide) zl_79 rfl (by have := out_len (n := n) (a := a) hi; first | omega | (simp only [List.length_append, List.length_cons, List.length_nil]; omega)) rfl (fun g5 hg5 => ?_))
        rw [← lcs_append, show ((outI (xdel l n) n a i)).length + 1 = ((outI (xdel l n) n a i) ++ [x]).length from by simp] at hg5 ⊢
        refine L_y rfl (y_assign rfl) rfl ?_
        refine L_nil ?_
        refine C_region ?_
        refine L_y rfl (y_move rfl) rfl ?_
        refine L_y rfl (y_add rfl rfl (show _ = ((i + 1 : Nat) : Int) from by rw [wi64 (by omega) (by omega)]; omega)) rfl ?_
        refine L_y rfl (y_assign rfl) rfl ?_
        refine L_nil ?_
        have e1 : big (xdel l n) n (i + 1) = big (xdel l n) n i := by rw [big_next hx]; first | rw [decide_eq_false hlt, Bool.or_false] | (rw [hb]; rfl)
        have e2 : (outI (xdel l n) n a (i + 1)) = (outI (xdel l n) n a i) ++ [x] := by first | exact out_more hb hx | exact out_not hb hx hlt
        refine ⟨(i + 1, g5), ⟨by simp only; omega, ?_⟩, by simp only; omega, ?_⟩ <;> try simp only
        · rw [e2]; exact hg5
        · rw [e1, e2]
          exact ⟨⟨rfl, rfl, rfl, rfl, rfl, rfl, trivial⟩, ((hsub (.cons_cons _ (.cons_cons _ (.cons_cons _ (.cons _ (.refl _)))))).trans (hsub_pick [1, 1, 1] rfl))⟩
    · have hb : big (xdel l n) n i = true := by simpa using hg17_3
      refine L_skip rfl rfl ?_
      refine L_skip rfl rfl ?_
      refine L_skip rfl rfl ?_
      refine L_skip rfl rfl ?_
      refine L_skip rfl rfl ?_
      refine L_skip rfl rfl ?_
      refine L_skip rfl rfl ?_
      refine L_y rfl (y_pick_f rfl rfl) rfl ?_
      refine L_nil ?_
      refine C_cond_f rfl ?_
      refine C_skip ?_
      refine C_region ?_
      refine L_y rfl (y_move rfl) rfl ?_
      refine L_y rfl (y_move rfl) rfl ?_
      refine L_y rfl (y_move rfl) rfl ?_
      refine L_y rfl (y_indexS rfl rfl Try.underlying67 sz_79 (by omega) (by omega) (show _ = i * 2 from by simp)) rfl ?_
      refine L_y rfl (y_loadA rfl ag_79 sz_79 (sees 1 0 rfl) (by rw [List.length_append, lcs_len]; omega) (lcs_at hx).2.2) rfl ?_
      refine L_op rfl (op_buildSlice (vs := [(0, _)]) rfl Try.underlying67 sz_79 zl_79 rfl (by decide) (fill_one rfl rfl rfl) rfl (fun B4 => ?_))
      refine L_op rfl (op_append (gs := g3) (len := ((outI (xdel l n) n a i)).length) (m := 1) (xs := lcs ((outI (xdel l n) n a i))) (vs := lcs [x]) 1 rfl rfl rfl hok3 (src_slice (sees 0 0 rfl) (Nat.le_of_ble_eq_true rfl) rfl) rfl (lcs_one _) Try.underlying67 ni_67 sz_79 by_79 (by decide) zl_79 rfl (by have := out_len (n := n) (a := a) hi; first | omega | (simp only [List.length_append, List.length_cons, List.length_nil]; omega)) rfl (fun g5 hg5 => ?_))
      rw [← lcs_append, show ((outI (xdel l n) n a i)).length + 1 = ((outI (xdel l n) n a i) ++ [x]).length from by simp] at hg5 ⊢
      refine L_y rfl (y_assign rfl) rfl ?_
      refine L_nil ?_
      refine C_region ?_
      refine L_y rfl (y_move rfl) rfl ?_
      refine L_y rfl (y_add rfl rfl (show _ = ((i + 1 : Nat) : Int) from by rw [wi64 (by omega) (by omega)]; omega)) rfl ?_
      refine L_y rfl (y_assign rfl) rfl ?_
      refine L_nil ?_
      have e1 : big (xdel l n) n (i + 1) = big (xdel l n) n i := by rw [big_next hx]; first | rw [decide_eq_false hlt, Bool.or_false] | (rw [hb]; rfl)
      have e2 : (outI (xdel l n) n a (i + 1)) = (outI (xdel l n) n a i) ++ [x] := by first | exact out_more hb hx | exact out_not hb hx hlt
      refine ⟨(i + 1, g5), ⟨by simp only; omega, ?_⟩, by simp only; omega, ?_⟩ <;> try simp only
      · rw [e2]; exact hg5
      · rw [e1, e2]
        exact ⟨⟨rfl, rfl, rfl, rfl, rfl, rfl, trivial⟩, ((hsub (.cons_cons _ (.cons_cons _ (.cons_cons _ (.cons _ (.refl _)))))).trans (hsub_pick [1, 1, 1] rfl))⟩
  · obtain rfl : i = (xdel l n).length := by have := of_decide_eq_false hc5; omega
    refine C_exit ?_
    refine C_seq ?_
    refine C_seq ?_
    refine C_region ?_
    refine L_y rfl (y_move rfl) rfl ?_
    refine L_y rfl (y_not rfl) rfl ?_
    refine L_nil ?_
    refine C_cond rfl (fun hc7 => ?_) (fun hc7 => ?_)
    · have hb : big (xdel l n) n (xdel l n).length = false := by simpa using hc7
      refine C_region ?_
      refine L_y rfl (y_move rfl) rfl ?_
      refine L_y rfl (y_move rfl) rfl ?_
      refine L_y rfl (y_move rfl) rfl ?_
      refine L_y rfl (y_build (vs := [(0, _), (1, _)]) (l := [.int .u64 (n : Int), .int .i64 a]) rfl pl_79 zl_79 (fill_cons (off := 0) (m := 1) (vs := [_]) rfl rfl rfl (Nat.le_of_ble_eq_true rfl) (fill_cons (off := 1) (m := 1) (vs := [_]) rfl rfl rfl (Nat.le_of_ble_eq_true rfl) rfl))) rfl ?_
      refine L_op rfl (op_buildSlice (vs := [(0, _)]) rfl Try.underlying67 sz_79 zl_79 rfl (by decide) (fill_one rfl rfl rfl) rfl (fun B5 => ?_))
      refine L_op rfl (op_append (gs := g3) (len := ((outI (xdel l n) n a (xdel l n).length)).length) (m := 1) (xs := lcs ((outI (xdel l n) n a (xdel l n).length))) (vs := lcs [(n, a)]) 1 rfl rfl rfl hok3 (src_slice (sees 0 0 rfl) (Nat.le_of_ble_eq_true rfl) rfl) rfl (lcs_one _) Try.underlying67 ni_67 sz_79 by_79 (by decide) zl_79 rfl (by have := out_len (n := n) (a := a) hi; first | omega | (simp only [List.length_append, List.length_cons, List.length_nil]; omega)) rfl (fun g4 hg4 => ?_))
      rw [← lcs_append, show ((outI (xdel l n) n a (xdel l n).length)).length + 1 = ((outI (xdel l n) n a (xdel l n).length) ++ [(n, a)]).length from by simp] at hg4 ⊢
      refine L_y rfl (y_assign rfl) rfl ?_
      refine L_nil ?_
      refine C_seq ?_
      refine C_region ?_
      refine L_y rfl (y_move rfl) rfl ?_
      refine L_y rfl (y_assign rfl) rfl ?_
      refine L_y rfl (y_assign rfl) rfl ?_
      refine L_nil ?_
      refine C_ret ?_
      refine B_ret (rv_tmp rfl (rv_tmp rfl rv_nil)) ((hsub (.cons_cons _ (.cons _ (.cons _ (.cons _ (.refl _)))))).trans (hsub_pick [1] rfl)) ?_
      have e4 : xput segs size l n a true = (xins (xdel l n) n a, 0) := by simp [xput, *]
      rw [e4]
      have e6 := out_end (a := a) hb
      rw [e6] at hg4
      refine ⟨g4, hg4, ?_, ?_⟩
      · rw [e6] <;> rfl
      · rw [e6] <;> rfl
    · have hb : big (xdel l n) n (xdel l n).length = true := by simpa using hc7
      refine C_skip ?_
      refine C_seq ?_
      refine C_region ?_
      refine L_y rfl (y_move rfl) rfl ?_
      refine L_y rfl (y_assign rfl) rfl ?_
      refine L_y rfl (y_assign rfl) rfl ?_
      refine L_nil ?_
      refine C_ret ?_
      refine B_ret (rv_tmp rfl (rv_tmp rfl rv_nil)) ((hsub (.cons_cons _ (.cons _ (.cons _ (.refl _))))).trans (hsub_pick [0] rfl)) ?_
      have e4 : xput segs size l n a true = (xins (xdel l n) n a, 0) := by simp [xput, *]
      rw [e4]
      have e6 := out_done (a := a) hb
      rw [e6] at hok3
      refine ⟨g3, hok3, ?_, ?_⟩
      · rw [e6] <;> rfl
      · rw [e6] <;> rfl

theorem put18_false {w0 : World} {H : Hp} {l : Xl} {g : Option SlG} (hok : slOk 2 g l.length (lcs l)) (hl : l.length < 1000000) (segs size : Int) (n : Nat) (a : Int) (hs : Xs l) : FnS Try.prog w0 77 #[slV g l.length, .int .i64 segs, .int .i64 size, .int .u64 (n : Int), .int .i64 a, .bool false] (slSeg 79 g (lcs l) :: H) (fun e H' => ∃ g2, slOk 2 g2 (xput segs size l n a false).1.length (lcs (xput segs size l n a false).1) ∧ e = .returned (.tuple #[slV g2 (xput segs size l n a false).1.length, .int .i64 (xput segs size l n a false).2]) ∧ H' = slSeg 79 g2 (lcs (xput segs size l n a false).1) :: H) := by
  by_cases h0 : n = 0
  · exact put18_0f hok hl segs size n a h0
  · cases ho : ofS segs size a with
    | none => exact put18_rf hok hl segs size n a h0 ho
    | some s =>
      cases hf : xfind l n with
      | none => exact put18_py hok hl segs size n a h0 ho hf
      | some q =>
        obtain ⟨k, hk1, hk2, hk3⟩ := fnd_some hs hf
        exact put18_p5 hok hl segs size n a h0 ho hf hk2

theorem put18_true {w0 : World} {H : Hp} {l : Xl} {g : Option SlG} (hok : slOk 2 g l.length (lcs l)) (hl : l.length < 1000000) (segs size : Int) (n : Nat) (a : Int) (hs : Xs l) : FnS Try.prog w0 77 #[slV g l.length, .int .i64 segs, .int .i64 size, .int .u64 (n : Int), .int .i64 a, .bool true] (slSeg 79 g (lcs l) :: H) (fun e H' => ∃ g2, slOk 2 g2 (xput segs size l n a true).1.length (lcs (xput segs size l n a true).1) ∧ e = .returned (.tuple #[slV g2 (xput segs size l n a true).1.length, .int .i64 (xput segs size l n a true).2]) ∧ H' = slSeg 79 g2 (lcs (xput segs size l n a true).1) :: H) := by
  by_cases h0 : n = 0
  · exact put18_0t hok hl segs size n a h0
  · cases ho : ofS segs size a with
    | none => exact put18_rt hok hl segs size n a h0 ho
    | some s =>
      cases hf : xfind l n with
      | none => exact put18_m4 hok hl segs size n a h0 ho hf
      | some q =>
        obtain ⟨k, hk1, hk2, hk3⟩ := fnd_some hs hf
        cases g with
        | none => exact absurd hok.2 (by omega)
        | some g => exact put18_my hok hl segs size n a h0 ho hf hk2 hk3 (xdel_take hs hk1)

theorem drop18_n {w0 : World} {H : Hp} {l : Xl} {g : Option SlG} (hok : slOk 2 g l.length (lcs l)) (hl : l.length < 1000000) (n : Nat) (hf : xfind l n = none) : FnS Try.prog w0 78 #[slV g l.length, .int .u64 (n : Int)] (slSeg 79 g (lcs l) :: H) (fun e H' => ∃ g2, slOk 2 g2 (xdrop l n).1.length (lcs (xdrop l n).1) ∧ e = .returned (.tuple #[slV g2 (xdrop l n).1.length, .int .i64 (xdrop l n).2]) ∧ H' = slSeg 79 g2 (lcs (xdrop l n).1) :: H) := by
  refine FnS_intro (n := 16) (rs := [.tmp 4, .tmp 5]) (vs := [slV g l.length, .int .u64 (n : Int)]) Try.func78 rfl Try.ntmps78 rfl rfl ?_
  refine C_seq ?_
  refine C_region ?_
  refine L_y rfl (y_assign rfl) rfl ?_
  refine L_y rfl (y_assign rfl) rfl ?_
  refine L_nil ?_
  refine C_seq ?_
  refine C_region ?_
  refine L_y rfl (y_move rfl) rfl ?_
  refine L_y rfl (y_move rfl) rfl ?_
  refine L_op rfl (op_call rfl rfl (fun a w => Try.call38 a w) rfl ?_)
  refine (find18_s (g := g) hok hl n).mono ?_
  rintro _ _ ⟨rfl, rfl⟩
  rw [fnd_none hf]
  refine ⟨_, rfl, ?_⟩
  refine L_y rfl (y_assign rfl) rfl ?_
  refine L_nil ?_
  refine C_seq ?_
  refine C_seq ?_
  refine C_region ?_
  refine L_y rfl (y_move rfl) rfl ?_
  refine L_y rfl (y_lss rfl rfl) rfl ?_
  refine L_nil ?_
  refine C_cond_t rfl ?_
  refine C_seq ?_
  refine C_region ?_
  refine L_y rfl (y_move rfl) rfl ?_
  refine L_y rfl (y_assign rfl) rfl ?_
  refine L_y rfl (y_assign rfl) rfl ?_
  refine L_nil ?_
  refine C_ret ?_
  refine B_ret (rv_tmp rfl (rv_tmp rfl rv_nil)) ((hsub (.cons_cons _ (.refl _))).trans (hsub_pick [0] rfl)) ?_
  have e4 : xdrop l n = (l, 4) := by simp [xdrop, hf]
  rw [e4]
  exact ⟨g, hok, rfl, rfl⟩

theorem drop18_y {w0 : World} {H : Hp} {l : Xl} {g : SlG} (hok : slOk 2 (some g) l.length (lcs l)) (hl : l.length < 1000000) (n : Nat) {q : Int} {k : Nat} (hf : xfind l n = some q) (hk : fnd l n = (k : Int)) (hkl : k < l.length) (hdel : xdel l n = l.take k ++ l.drop (k + 1)) : FnS Try.prog w0 78 #[slV (some g) l.length, .int .u64 (n : Int)] (slSeg 79 (some g) (lcs l) :: H) (fun e H' => ∃ g2, slOk 2 g2 (xdrop l n).1.length (lcs (xdrop l n).1) ∧ e = .returned (.tuple #[slV g2 (xdrop l n).1.length, .int .i64 (xdrop l n).2]) ∧ H' = slSeg 79 g2 (lcs (xdrop l n).1) :: H) := by
  refine FnS_intro (n := 16) (rs := [.tmp 4, .tmp 5]) (vs := [slV (some g) l.length, .int .u64 (n : Int)]) Try.func78 rfl Try.ntmps78 rfl rfl ?_
  refine C_seq ?_
  refine C_region ?_
  refine L_y rfl (y_assign rfl) rfl ?_
  refine L_y rfl (y_assign rfl) rfl ?_
  refine L_nil ?_
  refine C_seq ?_
  refine C_region ?_
  refine L_y rfl (y_move rfl) rfl ?_
  refine L_y rfl (y_move rfl) rfl ?_
  refine L_op rfl (op_call rfl rfl (fun a w => Try.call38 a w) rfl ?_)
  refine (find18_s (g := (some g)) hok hl n).mono ?_
  rintro _ _ ⟨rfl, rfl⟩
  rw [hk]
  refine ⟨_, rfl, ?_⟩
  refine L_y rfl (y_assign rfl) rfl ?_
  refine L_nil ?_
  refine C_seq ?_
  refine C_seq ?_
  refine C_region ?_
  refine L_y rfl (y_move rfl) rfl ?_
  refine L_y rfl (y_lss rfl rfl) rfl ?_
  refine L_nil ?_
  refine C_cond rfl (fun hc0 => absurd hc0 (by simp)) (fun hc0 => ?_)
  refine C_skip ?_
  refine C_seq ?_
  refine C_region ?_
  refine L_y rfl (y_move rfl) rfl ?_
  refine L_y rfl (y_move rfl) rfl ?_
  refine L_op rfl (op_call rfl rfl (fun a w => Try.call97 a w) rfl ?_)
  refine (without18_s hok hl k hkl).mono ?_
  rintro _ _ ⟨gw, hgw, rfl, rfl⟩
  rw [← hdel] at hgw ⊢
  refine ⟨_, rfl, ?_⟩
  refine L_y rfl (y_assign rfl) rfl ?_
  refine L_y rfl (y_assign rfl) rfl ?_
  refine L_nil ?_
  refine C_ret ?_
  refine B_ret (rv_tmp rfl (rv_tmp rfl rv_nil)) ((hsub (.cons_cons _ (.cons _ (.refl _)))).trans (hsub_pick [0] rfl)) ?_
  have e4 : xdrop l n = (xdel l n, 0) := by simp [xdrop, hf]
  rw [e4]
  exact ⟨gw, hgw, rfl, rfl⟩

theorem drop18_s {w0 : World} {H : Hp} {l : Xl} {g : Option SlG} (hok : slOk 2 g l.length (lcs l)) (hl : l.length < 1000000) (n : Nat) (hs : Xs l) : FnS Try.prog w0 78 #[slV g l.length, .int .u64 (n : Int)] (slSeg 79 g (lcs l) :: H) (fun e H' => ∃ g2, slOk 2 g2 (xdrop l n).1.length (lcs (xdrop l n).1) ∧ e = .returned (.tuple #[slV g2 (xdrop l n).1.length, .int .i64 (xdrop l n).2]) ∧ H' = slSeg 79 g2 (lcs (xdrop l n).1) :: H) := by
  cases hf : xfind l n with
  | none => exact drop18_n hok hl n hf
  | some q =>
    obtain ⟨k, hk1, hk2, hk3⟩ := fnd_some hs hf
    cases g with
    | none => exact absurd hok.2 (by omega)
    | some g => exact drop18_y hok hl n hf hk2 hk3 (xdel_take hs hk1)

end Go.Proofs.Ytaeooiogjhkjfaa

/- Deeds on numbers (own work). -/
set_option linter.unusedVariables false
set_option linter.unusedSimpArgs false
namespace Go.Sl
/-- A deed: what the list is then, and the error. -/
def dd (segs size : Int) (l : Xl) (d n : Nat) (a : Int) : Xl × Int := if d % 4 = 2 then xput segs size l n a true else if d % 4 = 3 then xdrop l n else xput segs size l n a false
def bos (l : List Bool) : List Value := l.map Value.bool
theorem bos_len (l : List Bool) : (bos l).length = l.length := by simp [bos]
theorem us_hat {l : List Value} {off i : Nat} {u : List Nat} (hv : (l.drop off).take (us u).length = us u) (hi : i < u.length) : l[off + i * 1]? = some (Value.int .u64 ((u.getD i 0 : Nat) : Int)) := by
  have h1 : ((l.drop off).take (us u).length)[i]? = (us u)[i]? := by rw [hv]
  rw [List.getElem?_take_of_lt (by rw [us_len]; exact hi), List.getElem?_drop] at h1
  rw [Nat.mul_one, h1]
  simp [us, List.getD, hi]
theorem bos_hat {l : List Value} {off i : Nat} {u : List Bool} (hv : (l.drop off).take (bos u).length = bos u) (hi : i < u.length) : l[off + i * 1]? = some (Value.bool (u.getD i false)) := by
  have h1 : ((l.drop off).take (bos u).length)[i]? = (bos u)[i]? := by rw [hv]
  rw [List.getElem?_take_of_lt (by rw [bos_len]; exact hi), List.getElem?_drop] at h1
  rw [Nat.mul_one, h1]
  simp [bos, List.getD, hi]
theorem take_next {α : Type} {la lb : List α} {i : Nat} (h : la.take i = lb.take i) (ha : i < la.length) (hb : i < lb.length) (e : la[i] = lb[i]) : la.take (i + 1) = lb.take (i + 1) := by
  rw [List.take_add_one, List.take_add_one, h, List.getElem?_eq_getElem ha, List.getElem?_eq_getElem hb, e]
theorem getD_get {la : List Nat} {i : Nat} (h : i < la.length) : la.getD i 0 = la[i] := by simp [List.getD, h]
end Go.Sl

/- What a plan gains (own work). -/
set_option linter.unusedVariables false
set_option linter.unusedSimpArgs false
namespace Go.Sl
/-- Does a number lie in the segment? -/
def liesIn (segs size : Int) (l : Xl) (seg : Int) (n : Nat) : Bool := match xfind l n with
  | some a => decide (ofS segs size a = some seg)
  | none => false
/-- The numbers that lie there, each once. -/
def gset (segs size : Int) (l : Xl) (seg : Int) (ns : List Nat) : List Nat := ns.foldl (fun acc n => if liesIn segs size l seg n && !acc.contains n then acc ++ [n] else acc) []
/-- A map of numbers that has just these. -/
structure Gs (acc : List Nat) (G : Gm) : Prop where
  ok : G.ok
  has : ∀ n : Nat, (G.get (n : Int)).isSome = acc.contains n
  len : G.es.length = acc.length
theorem Gs.new : Gs [] Gm.new := ⟨Gm.new_ok, fun n => rfl, rfl⟩
theorem Gs.put {acc : List Nat} {G : Gm} (h : Gs acc G) (n : Nat) (v : Value) : Gs (if acc.contains n then acc else acc ++ [n]) (G.put (n : Int) v) where
  ok := Gm.put_ok h.ok _ _
  has m := by
    rw [Gm.get_put]
    by_cases e : (m : Int) = (n : Int)
    · have : m = n := by omega
      subst this
      rw [if_pos rfl]
      cases hc : acc.contains m
      · simp
      · simp only [if_true]; rw [hc]; rfl
    · rw [if_neg e, h.has]
      have : ¬ m = n := by omega
      split
      · rfl
      · simp [this]
  len := by
    rw [Gm.put_len, h.has, h.len]
    split <;> simp
/-- Cells that are laid one by one. -/
def laidL (segs size : Int) (ll : Xl) : Xl := ll.foldl (fun x c => (xput segs size x c.1 c.2 false).1) []
end Go.Sl

/- A slice of deeds on numbers (own work). -/
set_option linter.unusedVariables false
set_option linter.unusedSimpArgs false
namespace Go.Sl
abbrev A18 := UInt8 × UInt64 × Int
abbrev a8c (x : A18) : List Value := [.int .u8 (x.1.toNat : Int), .int .u64 (x.2.1.toNat : Int), .int .i64 x.2.2]
def a8s (l : List A18) : List Value := (l.map a8c).flatten
theorem a8s_len (l : List A18) : (a8s l).length = l.length * 3 := by
  induction l with
  | nil => rfl
  | cons x l ih => simp only [a8s, List.map_cons, List.flatten_cons, List.length_append, List.length_cons] at ih ⊢; rw [ih]; simp; omega
theorem a8s_get : ∀ {l : List A18} {i : Nat} {a : A18}, l[i]? = some a → ((a8s l).drop (i * 3)).take 3 = a8c a
  | [], i, a, h => by simp at h
  | b :: l, 0, a, h => by
    simp at h; subst h
    simp only [a8s, List.map_cons, List.flatten_cons, Nat.zero_mul, List.drop_zero]
    rfl
  | b :: l, i + 1, a, h => by
    simp only [List.getElem?_cons_succ] at h
    have := a8s_get h
    simp only [a8s, List.map_cons, List.flatten_cons] at this ⊢
    rw [show (i + 1) * 3 = 3 + i * 3 by omega, ← List.drop_drop]
    exact this
theorem a8_at {l : List Value} {off i : Nat} {al : List A18} {a : A18} (hv : (l.drop off).take (a8s al).length = a8s al) (hi : al[i]? = some a) : (l.drop (off + i * 3)).take 3 = a8c a := by
  have hlt := (List.getElem?_eq_some_iff.1 hi).1
  rw [← a8s_get hi, ← hv, List.drop_take, List.take_take, List.drop_drop, a8s_len]
  congr 1
  omega
theorem xput_len {segs size : Int} {l : Xl} (hs : Xs l) (n : Nat) (a : Int) (mv : Bool) : (xput segs size l n a mv).1.length ≤ l.length + 1 := by
  unfold xput
  split
  · simp
  · split
    · simp
    · cases hf : xfind l n with
      | some b =>
        simp only
        split
        · have := xdel_len hs hf
          simp only [xins_len]; omega
        · simp
      | none =>
        simp only
        split
        · simp
        · simp [xins_len]
theorem xdrop_len {l : Xl} (n : Nat) : (xdrop l n).1.length ≤ l.length := by
  unfold xdrop
  split
  · exact List.length_filter_le _ _
  · exact Nat.le_refl _
theorem dd_len {segs size : Int} {l : Xl} (hs : Xs l) (d n : Nat) (a : Int) : (dd segs size l d n a).1.length ≤ l.length + 1 := by
  unfold dd
  split
  · exact xput_len hs n a true
  · split
    · have := xdrop_len (l := l) n; omega
    · exact xput_len hs n a false
theorem chk0 {segs size : Int} : chkE segs size = 0 ↔ mayG segs size = true := by unfold chkE; cases mayG segs size <;> simp
end Go.Sl

/- What the laws of layer 42 ask (own work). -/
set_option linter.unusedVariables false
set_option linter.unusedSimpArgs false
namespace Go.Sl
/-- The gain. -/
def gain42 (segs size : Int) (l : Xl) (seg : Int) (ns : List Nat) : Int :=
  if mayG segs size = false ∨ seg < 0 ∨ segs ≤ seg then 0 else max (size - ((gset segs size l seg ns).length : Int)) 0
end Go.Sl

/- The document's numbers and victim, as plain lists (own work). -/
set_option linter.unusedVariables false
set_option linter.unusedSimpArgs false
namespace Go.Sl
/-- The victim, as a number; -1: none. -/
def vicI (p : Nat → Bool) (c : Nat → Nat) (k : Nat) : Int := match vic p c k with | some b => (b : Int) | none => -1
def vicF (p : Nat → Bool) (c : Nat → Nat) (k : Nat) : Int := match vic p c k with | some b => (c b : Int) | none => 0
section
variable {p : Nat → Bool} {c : Nat → Nat} {k b : Nat}
end
/-- The used ones but the head. -/
def butK (lu : List Bool) (head : Int) (i : Nat) : List Bool := (List.range i).map fun k => lu.getD k false && !decide ((k : Int) = head)
/-- The document's choice. -/
def rch (segs size : Int) (l : Xl) (p : Nat → Bool) : Int := if mayG segs size then vicI p (fun j => cnt18 segs size l (j : Int)) segs.toNat else -1
end Go.Sl

/- walks (own work; the walks' lines by a program of this repo). -/
set_option linter.unusedVariables false
set_option linter.unusedSimpArgs false
set_option maxRecDepth 20000
namespace Go.Proofs.Ytaeooiogjhkjfaa
open Go.Sl
attribute [local irreducible] BodyQ WpC WpL WpS WpH OpW FnS



end Go.Proofs.Ytaeooiogjhkjfaa

/- Facts of the translation's types, for the kernel (own work, by a program of this repo). -/
namespace Go.Proofs.Ytaeooiogjhkjfaa
open Go.Sl
theorem ag_5 : isAggT Try.prog 5 = some false := by kernel_rfl
theorem ag_66 : isAggT Try.prog 66 = some false := by kernel_rfl
theorem fl_60_0 : fldT Try.prog 60 0 = some 0 := by kernel_rfl
theorem pl_51 : placesT Try.prog 51 = some [(0, 1), (1, 1)] := by kernel_rfl
theorem zl_51 : zeroL Try.prog 51 = some ([.int .i64 0, .int .i64 0]) := by kernel_rfl
end Go.Proofs.Ytaeooiogjhkjfaa

/- walks (own work; the walks' lines by a program of this repo). -/
set_option linter.unusedVariables false
set_option linter.unusedSimpArgs false
set_option maxRecDepth 20000
namespace Go.Proofs.Ytaeooiogjhkjfaa
open Go.Sl
attribute [local irreducible] BodyQ WpC WpL WpS WpH OpW FnS


theorem same18_s {w0 : World} {H : Hp} {pa pb : Option Addr} {ca cb : Nat} {la lb : List Nat} (hA : Holds w0 H pa (us la)) (hB : Holds w0 H pb (us lb)) (hla : la.length < 1000000) : FnS Try.prog w0 30 #[.slice pa la.length ca, .slice pb lb.length cb] H (fun e H' => e = .returned (.bool (decide (la = lb))) ∧ H' = H) := by
  refine FnS_intro (n := 26) (rs := [.tmp 4]) (vs := [.slice pa la.length ca, .slice pb lb.length cb]) Try.func30 rfl Try.ntmps30 rfl rfl ?_
  refine C_seq ?_
  refine C_region ?_
  refine L_y rfl (y_assign rfl) rfl ?_
  refine L_nil ?_
  refine C_seq ?_
  refine C_seq ?_
  refine C_region ?_
  refine L_y rfl (y_move rfl) rfl ?_
  refine L_y rfl (y_lenS rfl rfl Try.underlying63) rfl ?_
  refine L_y rfl (y_move rfl) rfl ?_
  refine L_y rfl (y_lenS rfl rfl Try.underlying63) rfl ?_
  refine L_y rfl (y_nei rfl rfl) rfl ?_
  refine L_nil ?_
  refine C_cond rfl (fun hc0 => ?_) (fun hc0 => ?_)
  · have hne : ¬ la.length = lb.length := by have := hc0; simp at this; omega
    refine C_seq ?_
    refine C_region ?_
    refine L_y rfl (y_assign rfl) rfl ?_
    refine L_nil ?_
    refine C_ret ?_
    refine B_ret (rv_tmp rfl rv_nil) (hsub (.refl _)) ?_
    refine ⟨congrArg (fun b => Ending.returned (Value.bool b)) ?_, rfl⟩
    first
    | exact (decide_eq_false fun e => hne (by rw [e])).symm
    | exact (decide_eq_false fun e => hxn (by subst e; rfl)).symm
    | (rw [List.take_length, heq, List.take_length] at htk; exact (decide_eq_true htk).symm)
  · have heq : la.length = lb.length := by have := hc0; simp at this; omega
    refine C_skip ?_
    refine C_seq ?_
    refine C_seq ?_
    refine C_region ?_
    refine L_y rfl (y_assign rfl) rfl ?_
    refine L_nil ?_
    refine C_block ?_
    refine C_loop (ι := Nat) (fun i => [(0, .slice pa la.length ca), (1, .slice pb lb.length cb), (5, .int .i64 (i : Int))]) (fun i => H) (fun i => i ≤ la.length ∧ la.take i = lb.take i) (fun i => la.length - i) 0 ⟨Nat.zero_le _, rfl⟩ ⟨rfl, rfl, rfl, trivial⟩ (HSub.refl _) (fun i hi => ?_)
    obtain ⟨hi, htk⟩ := hi
    refine C_seq ?_
    refine C_seq ?_
    refine C_region ?_
    refine L_y rfl (y_move rfl) rfl ?_
    refine L_y rfl (y_move rfl) rfl ?_
    refine L_y rfl (y_lenS rfl rfl Try.underlying63) rfl ?_
    refine L_y rfl (y_lss rfl rfl) rfl ?_
    refine L_nil ?_
    refine C_cond rfl (fun hc1 => ?_) (fun hc1 => ?_)
    · replace hc1 : i < la.length := by have := of_decide_eq_true hc1; omega
      obtain ⟨b1, o1, l1, T1, fr1, rfl, hs1, hle1, hv1⟩ := hA (by rw [us_len]; omega)
      obtain ⟨b2, o2, l2, T2, fr2, rfl, hs2, hle2, hv2⟩ := hB (by rw [us_len]; omega)
      refine C_skip ?_
      refine C_seq ?_
      refine C_block ?_
      refine C_seq ?_
      refine C_regionH0 (by kernel_rfl) ?_
      refine H_y 0 rfl (by kernel_rfl) (by kernel_rfl) (by kernel_rfl) (HSub.refl _) rfl (y_move rfl) rfl ?_
      refine H_y 1 rfl (by kernel_rfl) (by kernel_rfl) (by kernel_rfl) (HSub.refl _) rfl (y_move rfl) rfl ?_
      refine H_y 2 rfl (by kernel_rfl) (by kernel_rfl) (by kernel_rfl) (HSub.refl _) rfl (y_indexS rfl rfl Try.underlying63 sz_58 (by omega) (by omega) (show _ = o1 + i * 1 from by simp)) rfl ?_
      refine H_y 3 rfl (by kernel_rfl) (by kernel_rfl) (by kernel_rfl) (HSub.refl _) rfl (y_load rfl ag_58 (hs1) (us_hat hv1 hc1)) rfl ?_
      refine H_y 4 rfl (by kernel_rfl) (by kernel_rfl) (by kernel_rfl) (HSub.refl _) rfl (y_move rfl) rfl ?_
      refine H_y 5 rfl (by kernel_rfl) (by kernel_rfl) (by kernel_rfl) (HSub.refl _) rfl (y_move rfl) rfl ?_
      refine H_y 6 rfl (by kernel_rfl) (by kernel_rfl) (by kernel_rfl) (HSub.refl _) rfl (y_indexS rfl rfl Try.underlying63 sz_58 (by omega) (by omega) (show _ = o2 + i * 1 from by simp)) rfl ?_
      refine H_y 7 rfl (by kernel_rfl) (by kernel_rfl) (by kernel_rfl) (HSub.refl _) rfl (y_load rfl ag_58 (hs2) (us_hat hv2 (by omega))) rfl ?_
      refine H_y 8 rfl (by kernel_rfl) (by kernel_rfl) (by kernel_rfl) (HSub.refl _) rfl (y_nei rfl rfl) rfl ?_
      refine H_done (by kernel_rfl) ?_
      refine C_cond rfl (fun hc2 => ?_) (fun hc2 => ?_)
      · have hxn : ¬ la[i] = lb[i]'(by omega) := fun e => by rw [getD_get hc1, getD_get (show i < lb.length by omega), e] at hc2; simp at hc2
        refine C_seq ?_
        refine C_region ?_
        refine L_y rfl (y_assign rfl) rfl ?_
        refine L_nil ?_
        refine C_ret ?_
        refine B_ret (rv_tmp rfl rv_nil) (hsub (.refl _)) ?_
        refine ⟨congrArg (fun b => Ending.returned (Value.bool b)) ?_, rfl⟩
        first
        | exact (decide_eq_false fun e => hne (by rw [e])).symm
        | exact (decide_eq_false fun e => hxn (by subst e; rfl)).symm
        | (rw [List.take_length, heq, List.take_length] at htk; exact (decide_eq_true htk).symm)
      · have hxe : la[i] = lb[i]'(by omega) := by rw [getD_get hc1, getD_get (show i < lb.length by omega)] at hc2; simp at hc2; omega
        refine C_skip ?_
        refine C_region ?_
        refine L_y rfl (y_move rfl) rfl ?_
        refine L_y rfl (y_add rfl rfl (show _ = ((i + 1 : Nat) : Int) from by rw [wi64 (by omega) (by omega)]; omega)) rfl ?_
        refine L_y rfl (y_assign rfl) rfl ?_
        refine L_nil ?_
        exact ⟨i + 1, ⟨by omega, take_next htk hc1 (by omega) hxe⟩, by omega, ⟨rfl, rfl, rfl, trivial⟩, HSub.refl _⟩
    · obtain rfl : i = la.length := by have := of_decide_eq_false hc1; omega
      refine C_exit ?_
      refine C_seq ?_
      refine C_region ?_
      refine L_y rfl (y_assign rfl) rfl ?_
      refine L_nil ?_
      refine C_ret ?_
      refine B_ret (rv_tmp rfl rv_nil) (hsub (.refl _)) ?_
      refine ⟨congrArg (fun b => Ending.returned (Value.bool b)) ?_, rfl⟩
      first
      | exact (decide_eq_false fun e => hne (by rw [e])).symm
      | exact (decide_eq_false fun e => hxn (by subst e; rfl)).symm
      | (rw [List.take_length, heq, List.take_length] at htk; exact (decide_eq_true htk).symm)

theorem used_s {w0 : World} {H : Hp} {pa : Option Addr} {k ca : Nat} : FnS Try.prog w0 74 #[.slice pa k ca] H (fun e H' => ∃ b, e = .returned (.func (.func 94) #[] ([ptr b] : List Value).toArray) ∧ H' = [(b, .cells [Value.slice pa k ca].toArray 66)] :: H) := by
  refine FnS_intro (n := 4) (rs := [.tmp 2]) (vs := [.slice pa k ca]) Try.func74 rfl Try.ntmps74 rfl rfl ?_
  refine C_seq ?_
  refine C_region ?_
  refine L_op rfl (op_box rfl rfl rfl (fun B1 => ?_))
  refine L_y rfl (y_assign rfl) rfl ?_
  refine L_nil ?_
  refine C_seq ?_
  refine C_region ?_
  refine L_y rfl (y_makeFunc rfl rfl) rfl ?_
  refine L_y rfl (y_assign rfl) rfl ?_
  refine L_nil ?_
  refine C_ret ?_
  refine B_ret (rv_tmp rfl rv_nil) (HSub.refl _) ?_
  exact ⟨B1, rfl, rfl⟩

theorem used1_s {w0 : World} {H : Hp} {pa : Option Addr} {ca b : Nat} {l : List Bool} (hC : Sees (fun w => St w0 w H) b (.cells [Value.slice pa l.length ca].toArray 66)) (hA : Holds w0 H pa (bos l)) (hl : l.length < 1000000) (k : Int) : FnS Try.prog w0 94 #[.int .i64 k, ptr b] H (fun e H' => e = .returned (.bool (decide (0 ≤ k) && l.getD k.toNat false)) ∧ H' = H) := by
  refine FnS_intro (n := 18) (rs := [.tmp 3]) (vs := [.int .i64 k, ptr b]) Try.func94 rfl Try.ntmps94 rfl rfl ?_
  refine C_seq ?_
  refine C_region ?_
  refine L_y rfl (y_assign rfl) rfl ?_
  refine L_nil ?_
  refine C_seq ?_
  refine C_region ?_
  refine L_y rfl (y_move rfl) rfl ?_
  refine L_y rfl (y_geq rfl rfl) rfl ?_
  refine L_y rfl (y_move rfl) rfl ?_
  refine L_case 6 rfl (fun hg1_3 => ?_) (fun hg1_3 => ?_)
  · have h0 : 0 ≤ k := of_decide_eq_true hg1_3
    refine L_y rfl (y_move rfl) rfl ?_
    refine L_y rfl (y_load rfl ag_66 (hC) rfl) rfl ?_
    refine L_y rfl (y_lenS rfl rfl Try.underlying66) rfl ?_
    refine L_y rfl (y_lss rfl rfl) rfl ?_
    refine L_y rfl (y_pick_t rfl rfl) rfl ?_
    refine L_y rfl (y_move rfl) rfl ?_
    refine L_case 12 rfl (fun hg1_9 => ?_) (fun hg1_9 => ?_)
    · have h1 : k.toNat < l.length := by have := of_decide_eq_true hg1_9; omega
      obtain ⟨b1, o1, l1, T1, fr1, rfl, hs1, hle1, hv1⟩ := hA (by rw [bos_len]; omega)
      refine L_y rfl (y_load rfl ag_66 (hC) rfl) rfl ?_
      refine L_y rfl (y_move rfl) rfl ?_
      refine L_y rfl (y_indexS rfl rfl Try.underlying66 sz_4 (by omega) (by omega) (show _ = o1 + k.toNat * 1 from by simp)) rfl ?_
      refine L_y rfl (y_load rfl ag_4 (hs1) (bos_hat hv1 h1)) rfl ?_
      refine L_y rfl (y_pick_t rfl rfl) rfl ?_
      refine L_y rfl (y_assign rfl) rfl ?_
      refine L_nil ?_
      refine C_ret ?_
      refine B_ret (rv_tmp rfl rv_nil) (hsub (.refl _)) ?_
      refine ⟨congrArg (fun b => Ending.returned (Value.bool b)) ?_, rfl⟩
      first
      | (simp only [decide_eq_true h0, Bool.true_and, h2]; done)
      | (simp only [decide_eq_true h0, Bool.true_and]; done)
      | (simp only [decide_eq_false h0, Bool.false_and]; done)
    · have h1 : ¬ k.toNat < l.length := by have := of_decide_eq_false hg1_9; omega
      have h2 : l.getD k.toNat false = false := by rw [List.getD_eq_getElem?_getD, List.getElem?_eq_none (Nat.le_of_not_lt h1)]; rfl
      refine L_skip rfl rfl ?_
      refine L_skip rfl rfl ?_
      refine L_skip rfl rfl ?_
      refine L_skip rfl rfl ?_
      refine L_y rfl (y_pick_f rfl rfl) rfl ?_
      refine L_y rfl (y_assign rfl) rfl ?_
      refine L_nil ?_
      refine C_ret ?_
      refine B_ret (rv_tmp rfl rv_nil) (hsub (.refl _)) ?_
      refine ⟨congrArg (fun b => Ending.returned (Value.bool b)) ?_, rfl⟩
      first
      | (simp only [decide_eq_true h0, Bool.true_and, h2]; done)
      | (simp only [decide_eq_true h0, Bool.true_and]; done)
      | (simp only [decide_eq_false h0, Bool.false_and]; done)
  · have h0 : ¬ 0 ≤ k := of_decide_eq_false hg1_3
    refine L_skip rfl rfl ?_
    refine L_skip rfl rfl ?_
    refine L_skip rfl rfl ?_
    refine L_skip rfl rfl ?_
    refine L_y rfl (y_pick_f rfl rfl) rfl ?_
    refine L_y rfl (y_move rfl) rfl ?_
    refine L_skip rfl rfl ?_
    refine L_skip rfl rfl ?_
    refine L_skip rfl rfl ?_
    refine L_skip rfl rfl ?_
    refine L_y rfl (y_pick_f rfl rfl) rfl ?_
    refine L_y rfl (y_assign rfl) rfl ?_
    refine L_nil ?_
    refine C_ret ?_
    refine B_ret (rv_tmp rfl rv_nil) (hsub (.refl _)) ?_
    refine ⟨congrArg (fun b => Ending.returned (Value.bool b)) ?_, rfl⟩
    first
    | (simp only [decide_eq_true h0, Bool.true_and, h2]; done)
    | (simp only [decide_eq_true h0, Bool.true_and]; done)
    | (simp only [decide_eq_false h0, Bool.false_and]; done)

end Go.Proofs.Ytaeooiogjhkjfaa

/- Facts of the translation's types, for the kernel (own work, by a program of this repo). -/
namespace Go.Proofs.Ytaeooiogjhkjfaa
open Go.Sl
theorem ag_126 : isAggT Try.prog 126 = some false := by kernel_rfl
theorem ag_127 : isAggT Try.prog 127 = some false := by kernel_rfl
theorem eg_51 : Try.prog.eqGuardType Try.prog.depth 51 = false := by kernel_rfl
theorem fi_51 : intFieldsT Try.prog 51 = some [.i64, .i64] := by kernel_rfl
theorem fl_129_0 : fldT Try.prog 129 0 = some 0 := by kernel_rfl
theorem fl_129_1 : fldT Try.prog 129 1 = some 2 := by kernel_rfl
theorem fl_129_2 : fldT Try.prog 129 2 = some 3 := by kernel_rfl
theorem pl_129 : placesT Try.prog 129 = some [(0, 2), (2, 1), (3, 1)] := by kernel_rfl
theorem zl_129 : zeroL Try.prog 129 = some ([.int .i64 0, .int .i64 0] ++ [.map none, .map none]) := by kernel_rfl
theorem zt_3 : zeroT Try.prog 3 = some (.int .i64 0) := by kernel_rfl
end Go.Proofs.Ytaeooiogjhkjfaa

/- walks (own work; the walks' lines by a program of this repo). -/
set_option linter.unusedVariables false
set_option linter.unusedSimpArgs false
set_option maxRecDepth 20000
namespace Go.Proofs.Ytaeooiogjhkjfaa
open Go.Sl
attribute [local irreducible] BodyQ WpC WpL WpS WpH OpW FnS


theorem check_s {w0 : World} {H : Hp} (segs size : Int) : FnS Try.prog w0 27 #[shV segs size] H (fun e H' => e = .returned (.int .i64 (chkE segs size)) ∧ H' = H) := by
  refine FnS_intro (n := 21) (rs := [.tmp 2]) (vs := [shV segs size]) Try.func27 rfl Try.ntmps27 rfl rfl ?_
  refine C_seq ?_
  refine C_region ?_
  refine L_op rfl (op_box rfl rfl rfl (fun B1 => ?_))
  refine L_y rfl (y_assign rfl) rfl ?_
  refine L_nil ?_
  refine C_seq ?_
  refine C_seq ?_
  refine C_region ?_
  refine L_y rfl (y_fieldAddr rfl fl_51_0) rfl ?_
  refine L_y rfl (y_load rfl ag_3 (sees 0 0 rfl) rfl) rfl ?_
  refine L_y rfl (y_lss rfl rfl) rfl ?_
  refine L_y rfl (y_move rfl) rfl ?_
  refine L_case 6 rfl (fun hg1_4 => ?_) (fun hg1_4 => ?_)
  · skip
    refine L_skip rfl rfl ?_
    refine L_skip rfl rfl ?_
    refine L_skip rfl rfl ?_
    refine L_y rfl (y_pick_t rfl rfl) rfl ?_
    refine L_y rfl (y_move rfl) rfl ?_
    refine L_skip rfl rfl ?_
    refine L_skip rfl rfl ?_
    refine L_skip rfl rfl ?_
    refine L_y rfl (y_pick_t rfl rfl) rfl ?_
    refine L_y rfl (y_move rfl) rfl ?_
    refine L_skip rfl rfl ?_
    refine L_skip rfl rfl ?_
    refine L_skip rfl rfl ?_
    refine L_y rfl (y_pick_t rfl rfl) rfl ?_
    refine L_nil ?_
    refine C_cond_t rfl ?_
    refine C_seq ?_
    refine C_region ?_
    refine L_y rfl (y_assign rfl) rfl ?_
    refine L_nil ?_
    refine C_ret ?_
    refine B_ret (rv_tmp rfl rv_nil) (hsub (.cons _ (.refl _))) ?_
    refine ⟨congrArg (fun x => Ending.returned (Value.int .i64 x)) ?_, rfl⟩
    unfold chkE mayG
    split <;> rename_i hq <;> simp at hq <;> simp_all <;> omega
  · skip
    refine L_y rfl (y_fieldAddr rfl fl_51_0) rfl ?_
    refine L_y rfl (y_load rfl ag_3 (sees 0 0 rfl) rfl) rfl ?_
    refine L_y rfl (y_gtr rfl rfl) rfl ?_
    refine L_y rfl (y_pick_f rfl rfl) rfl ?_
    refine L_y rfl (y_move rfl) rfl ?_
    refine L_case 11 rfl (fun hg1_9 => ?_) (fun hg1_9 => ?_)
    · skip
      refine L_skip rfl rfl ?_
      refine L_skip rfl rfl ?_
      refine L_skip rfl rfl ?_
      refine L_y rfl (y_pick_t rfl rfl) rfl ?_
      refine L_y rfl (y_move rfl) rfl ?_
      refine L_skip rfl rfl ?_
      refine L_skip rfl rfl ?_
      refine L_skip rfl rfl ?_
      refine L_y rfl (y_pick_t rfl rfl) rfl ?_
      refine L_nil ?_
      refine C_cond_t rfl ?_
      refine C_seq ?_
      refine C_region ?_
      refine L_y rfl (y_assign rfl) rfl ?_
      refine L_nil ?_
      refine C_ret ?_
      refine B_ret (rv_tmp rfl rv_nil) (hsub (.cons _ (.refl _))) ?_
      refine ⟨congrArg (fun x => Ending.returned (Value.int .i64 x)) ?_, rfl⟩
      unfold chkE mayG
      split <;> rename_i hq <;> simp at hq <;> simp_all <;> omega
    · skip
      refine L_y rfl (y_fieldAddr rfl fl_51_1) rfl ?_
      refine L_y rfl (y_load rfl ag_3 (sees 0 0 rfl) rfl) rfl ?_
      refine L_y rfl (y_lss rfl rfl) rfl ?_
      refine L_y rfl (y_pick_f rfl rfl) rfl ?_
      refine L_y rfl (y_move rfl) rfl ?_
      refine L_case 16 rfl (fun hg1_14 => ?_) (fun hg1_14 => ?_)
      · skip
        refine L_skip rfl rfl ?_
        refine L_skip rfl rfl ?_
        refine L_skip rfl rfl ?_
        refine L_y rfl (y_pick_t rfl rfl) rfl ?_
        refine L_nil ?_
        refine C_cond_t rfl ?_
        refine C_seq ?_
        refine C_region ?_
        refine L_y rfl (y_assign rfl) rfl ?_
        refine L_nil ?_
        refine C_ret ?_
        refine B_ret (rv_tmp rfl rv_nil) (hsub (.cons _ (.refl _))) ?_
        refine ⟨congrArg (fun x => Ending.returned (Value.int .i64 x)) ?_, rfl⟩
        unfold chkE mayG
        split <;> rename_i hq <;> simp at hq <;> simp_all <;> omega
      · skip
        refine L_y rfl (y_fieldAddr rfl fl_51_1) rfl ?_
        refine L_y rfl (y_load rfl ag_3 (sees 0 0 rfl) rfl) rfl ?_
        refine L_y rfl (y_gtr rfl rfl) rfl ?_
        refine L_y rfl (y_pick_f rfl rfl) rfl ?_
        refine L_nil ?_
        refine C_cond rfl (fun hc0 => ?_) (fun hc0 => ?_)
        · replace hc0 := of_decide_eq_true hc0
          refine C_seq ?_
          refine C_region ?_
          refine L_y rfl (y_assign rfl) rfl ?_
          refine L_nil ?_
          refine C_ret ?_
          refine B_ret (rv_tmp rfl rv_nil) (hsub (.cons _ (.refl _))) ?_
          refine ⟨congrArg (fun x => Ending.returned (Value.int .i64 x)) ?_, rfl⟩
          unfold chkE mayG
          split <;> rename_i hq <;> simp at hq <;> simp_all <;> omega
        · replace hc0 := of_decide_eq_false hc0
          refine C_skip ?_
          refine C_seq ?_
          refine C_region ?_
          refine L_y rfl (y_assign rfl) rfl ?_
          refine L_nil ?_
          refine C_ret ?_
          refine B_ret (rv_tmp rfl rv_nil) (hsub (.cons _ (.refl _))) ?_
          refine ⟨congrArg (fun x => Ending.returned (Value.int .i64 x)) ?_, rfl⟩
          unfold chkE mayG
          split <;> rename_i hq <;> simp at hq <;> simp_all <;> omega

theorem shmay_s {w0 : World} {H : Hp} (segs size : Int) : FnS Try.prog w0 79 #[shV segs size] H (fun e H' => e = .returned (.bool (mayG segs size)) ∧ H' = H) := by
  refine FnS_intro (n := 11) (rs := [.tmp 2]) (vs := [shV segs size]) Try.func79 rfl Try.ntmps79 rfl rfl ?_
  refine C_seq ?_
  refine C_region ?_
  refine L_op rfl (op_box rfl rfl rfl (fun B1 => ?_))
  refine L_y rfl (y_assign rfl) rfl ?_
  refine L_nil ?_
  refine C_seq ?_
  refine C_region ?_
  refine L_y rfl (y_loadA rfl ag_51 sz_51 (sees 0 0 rfl) (Nat.le_of_ble_eq_true rfl) rfl) rfl ?_
  refine L_y rfl (y_build0 pl_51 zl_51) rfl ?_
  refine L_y rfl (y_nest (xs := [segs, size]) (ys := [0, 0]) rfl rfl fi_51 eg_51 rfl rfl) rfl ?_
  refine L_y rfl (y_move rfl) rfl ?_
  refine L_case 6 rfl (fun hg1_4 => ?_) (fun hg1_4 => ?_)
  · skip
    refine L_y rfl (y_loadA rfl ag_51 sz_51 (sees 0 0 rfl) (Nat.le_of_ble_eq_true rfl) rfl) rfl ?_
    refine L_op rfl (op_call rfl rfl (fun a w => Try.call27 a w) rfl ?_)
    refine (check_s segs size).mono ?_
    rintro _ _ ⟨rfl, e⟩
    obtain rfl := e.symm
    clear e
    refine ⟨_, rfl, ?_⟩
    refine L_y rfl (y_eqi rfl rfl) rfl ?_
    refine L_y rfl (y_pick_t rfl rfl) rfl ?_
    refine L_y rfl (y_assign rfl) rfl ?_
    refine L_nil ?_
    refine C_ret ?_
    refine B_ret (rv_tmp rfl rv_nil) (hsub (.cons _ (.refl _))) ?_
    refine ⟨congrArg (fun x => Ending.returned (Value.bool x)) ?_, rfl⟩
    first
    | (unfold chkE; cases mayG segs size <;> simp; done)
    | (have hz : segs = 0 ∧ size = 0 := by simpa using hg1_4
       rw [hz.1, hz.2]; rfl)
  · skip
    refine L_skip rfl rfl ?_
    refine L_skip rfl rfl ?_
    refine L_skip rfl rfl ?_
    refine L_y rfl (y_pick_f rfl rfl) rfl ?_
    refine L_y rfl (y_assign rfl) rfl ?_
    refine L_nil ?_
    refine C_ret ?_
    refine B_ret (rv_tmp rfl rv_nil) (hsub (.cons _ (.refl _))) ?_
    refine ⟨congrArg (fun x => Ending.returned (Value.bool x)) ?_, rfl⟩
    first
    | (unfold chkE; cases mayG segs size <;> simp; done)
    | (have hz : segs = 0 ∧ size = 0 := by simpa using hg1_4
       rw [hz.1, hz.2]; rfl)

theorem sectors_s {w0 : World} {H : Hp} (segs size : Int) (hm : mayG segs size = true) : FnS Try.prog w0 80 #[shV segs size] H (fun e H' => e = .returned (.int .i64 (2 + segs * size)) ∧ H' = H) := by
  obtain ⟨h1, h2, h3, h4⟩ := mayG_spec hm
  obtain ⟨m1, m2⟩ := mul_bound hm
  refine FnS_intro (n := 12) (rs := [.tmp 2]) (vs := [shV segs size]) Try.func80 rfl Try.ntmps80 rfl rfl ?_
  refine C_seq ?_
  refine C_region ?_
  refine L_op rfl (op_box rfl rfl rfl (fun B1 => ?_))
  refine L_y rfl (y_assign rfl) rfl ?_
  refine L_nil ?_
  refine C_seq ?_
  refine C_seq ?_
  refine C_region ?_
  refine L_y rfl (y_loadA rfl ag_51 sz_51 (sees 0 0 rfl) (Nat.le_of_ble_eq_true rfl) rfl) rfl ?_
  refine L_op rfl (op_call rfl rfl (fun a w => Try.call79 a w) rfl ?_)
  refine (shmay_s segs size).mono ?_
  rintro _ _ ⟨rfl, e⟩
  obtain rfl := e.symm
  clear e
  rw [hm]
  refine ⟨_, rfl, ?_⟩
  refine L_y rfl (y_not rfl) rfl ?_
  refine L_nil ?_
  refine C_cond_f rfl ?_
  refine C_skip ?_
  refine C_seq ?_
  refine C_region ?_
  refine L_y rfl (y_fieldAddr rfl fl_51_0) rfl ?_
  refine L_y rfl (y_load rfl ag_3 (sees 0 0 rfl) rfl) rfl ?_
  refine L_y rfl (y_fieldAddr rfl fl_51_1) rfl ?_
  refine L_y rfl (y_load rfl ag_3 (sees 0 0 rfl) rfl) rfl ?_
  refine L_y rfl (y_mul rfl rfl (wi64 (by omega) (by omega))) rfl ?_
  refine L_y rfl (y_add rfl rfl (wi64 (by omega) (by omega))) rfl ?_
  refine L_y rfl (y_assign rfl) rfl ?_
  refine L_nil ?_
  refine C_ret ?_
  refine B_ret (rv_tmp rfl rv_nil) (hsub (.cons _ (.refl _))) ?_
  exact ⟨rfl, rfl⟩

theorem of_n {w0 : World} {H : Hp} (segs size : Int) (hm : mayG segs size = false) (a : Int) : FnS Try.prog w0 40 #[shV segs size, .int .i64 a] H (fun e H' => e = .returned (.tuple #[.int .i64 0, .int .i64 0, .bool false]) ∧ H' = H) := by
  refine FnS_intro (n := 31) (rs := [.tmp 4, .tmp 5, .tmp 6]) (vs := [shV segs size, .int .i64 a]) Try.func40 rfl Try.ntmps40 rfl rfl ?_
  refine C_seq ?_
  refine C_region ?_
  refine L_op rfl (op_box rfl rfl rfl (fun B1 => ?_))
  refine L_y rfl (y_assign rfl) rfl ?_
  refine L_y rfl (y_assign rfl) rfl ?_
  refine L_y rfl (y_assign rfl) rfl ?_
  refine L_nil ?_
  refine C_seq ?_
  refine C_seq ?_
  refine C_region ?_
  refine L_y rfl (y_loadA rfl ag_51 sz_51 (sees 0 0 rfl) (Nat.le_of_ble_eq_true rfl) rfl) rfl ?_
  refine L_op rfl (op_call rfl rfl (fun a w => Try.call79 a w) rfl ?_)
  refine (shmay_s segs size).mono ?_
  rintro _ _ ⟨rfl, e⟩
  obtain rfl := e.symm
  clear e
  rw [hm]
  refine ⟨_, rfl, ?_⟩
  refine L_y rfl (y_not rfl) rfl ?_
  refine L_y rfl (y_move rfl) rfl ?_
  refine L_skip rfl rfl ?_
  refine L_skip rfl rfl ?_
  refine L_y rfl (y_pick_t rfl rfl) rfl ?_
  refine L_y rfl (y_move rfl) rfl ?_
  refine L_skip rfl rfl ?_
  refine L_skip rfl rfl ?_
  refine L_skip rfl rfl ?_
  refine L_skip rfl rfl ?_
  refine L_y rfl (y_pick_t rfl rfl) rfl ?_
  refine L_nil ?_
  refine C_cond_t rfl ?_
  refine C_seq ?_
  refine C_region ?_
  refine L_y rfl (y_assign rfl) rfl ?_
  refine L_y rfl (y_assign rfl) rfl ?_
  refine L_y rfl (y_assign rfl) rfl ?_
  refine L_nil ?_
  refine C_ret ?_
  refine B_ret (rv_tmp rfl (rv_tmp rfl (rv_tmp rfl rv_nil))) (hsub (.cons _ (.refl _))) ?_
  exact ⟨rfl, rfl⟩

theorem of_o {w0 : World} {H : Hp} (segs size : Int) (hm : mayG segs size = true) (a : Int) (ho : a < 2 ∨ 2 + segs * size ≤ a) : FnS Try.prog w0 40 #[shV segs size, .int .i64 a] H (fun e H' => e = .returned (.tuple #[.int .i64 0, .int .i64 0, .bool false]) ∧ H' = H) := by
  obtain ⟨h1, h2, h3, h4⟩ := mayG_spec hm
  obtain ⟨m1, m2⟩ := mul_bound hm
  refine FnS_intro (n := 31) (rs := [.tmp 4, .tmp 5, .tmp 6]) (vs := [shV segs size, .int .i64 a]) Try.func40 rfl Try.ntmps40 rfl rfl ?_
  refine C_seq ?_
  refine C_region ?_
  refine L_op rfl (op_box rfl rfl rfl (fun B1 => ?_))
  refine L_y rfl (y_assign rfl) rfl ?_
  refine L_y rfl (y_assign rfl) rfl ?_
  refine L_y rfl (y_assign rfl) rfl ?_
  refine L_nil ?_
  refine C_seq ?_
  refine C_seq ?_
  refine C_region ?_
  refine L_y rfl (y_loadA rfl ag_51 sz_51 (sees 0 0 rfl) (Nat.le_of_ble_eq_true rfl) rfl) rfl ?_
  refine L_op rfl (op_call rfl rfl (fun a w => Try.call79 a w) rfl ?_)
  refine (shmay_s segs size).mono ?_
  rintro _ _ ⟨rfl, e⟩
  obtain rfl := e.symm
  clear e
  rw [hm]
  refine ⟨_, rfl, ?_⟩
  refine L_y rfl (y_not rfl) rfl ?_
  refine L_y rfl (y_move rfl) rfl ?_
  refine L_y rfl (y_move rfl) rfl ?_
  refine L_y rfl (y_lss rfl rfl) rfl ?_
  refine L_y rfl (y_pick_f rfl rfl) rfl ?_
  refine L_y rfl (y_move rfl) rfl ?_
  refine L_case 15 rfl (fun hg1_8 => ?_) (fun hg1_8 => ?_)
  · skip
    refine L_skip rfl rfl ?_
    refine L_skip rfl rfl ?_
    refine L_skip rfl rfl ?_
    refine L_skip rfl rfl ?_
    refine L_y rfl (y_pick_t rfl rfl) rfl ?_
    refine L_nil ?_
    refine C_cond_t rfl ?_
    refine C_seq ?_
    refine C_region ?_
    refine L_y rfl (y_assign rfl) rfl ?_
    refine L_y rfl (y_assign rfl) rfl ?_
    refine L_y rfl (y_assign rfl) rfl ?_
    refine L_nil ?_
    refine C_ret ?_
    refine B_ret (rv_tmp rfl (rv_tmp rfl (rv_tmp rfl rv_nil))) (hsub (.cons _ (.refl _))) ?_
    exact ⟨rfl, rfl⟩
  · replace hg1_8 := of_decide_eq_false hg1_8
    refine L_y rfl (y_move rfl) rfl ?_
    refine L_y rfl (y_loadA rfl ag_51 sz_51 (sees 0 0 rfl) (Nat.le_of_ble_eq_true rfl) rfl) rfl ?_
    refine L_op rfl (op_call rfl rfl (fun a w => Try.call80 a w) rfl ?_)
    refine (sectors_s segs size hm).mono ?_
    rintro _ _ ⟨rfl, e⟩
    obtain rfl := e.symm
    clear e
    refine ⟨_, rfl, ?_⟩
    refine L_y rfl (y_geq rfl rfl) rfl ?_
    refine L_y rfl (y_pick_f rfl rfl) rfl ?_
    refine L_nil ?_
    refine C_cond rfl (fun hc0 => ?_) (fun hc0 => absurd (of_decide_eq_false hc0) (by omega))
    refine C_seq ?_
    refine C_region ?_
    refine L_y rfl (y_assign rfl) rfl ?_
    refine L_y rfl (y_assign rfl) rfl ?_
    refine L_y rfl (y_assign rfl) rfl ?_
    refine L_nil ?_
    refine C_ret ?_
    refine B_ret (rv_tmp rfl (rv_tmp rfl (rv_tmp rfl rv_nil))) (hsub (.cons _ (.refl _))) ?_
    exact ⟨rfl, rfl⟩

theorem of_y {w0 : World} {H : Hp} (segs size : Int) (hm : mayG segs size = true) (a : Int) (ho : 2 ≤ a) (hp : a < 2 + segs * size) : FnS Try.prog w0 40 #[shV segs size, .int .i64 a] H (fun e H' => e = .returned (.tuple #[.int .i64 ((a - 2) / size), .int .i64 ((a - 2) % size), .bool true]) ∧ H' = H) := by
  obtain ⟨h1, h2, h3, h4⟩ := mayG_spec hm
  obtain ⟨m1, m2⟩ := mul_bound hm
  have q0 : 0 ≤ (a - 2) / size := Int.ediv_nonneg (by omega) (by omega)
  have q1 : (a - 2) / size ≤ a - 2 := Int.ediv_le_self _ (by omega)
  have q2 : 0 ≤ (a - 2) % size := Int.emod_nonneg _ (by omega)
  have q3 : (a - 2) % size < size := Int.emod_lt_of_pos _ (by omega)
  refine FnS_intro (n := 31) (rs := [.tmp 4, .tmp 5, .tmp 6]) (vs := [shV segs size, .int .i64 a]) Try.func40 rfl Try.ntmps40 rfl rfl ?_
  refine C_seq ?_
  refine C_region ?_
  refine L_op rfl (op_box rfl rfl rfl (fun B1 => ?_))
  refine L_y rfl (y_assign rfl) rfl ?_
  refine L_y rfl (y_assign rfl) rfl ?_
  refine L_y rfl (y_assign rfl) rfl ?_
  refine L_nil ?_
  refine C_seq ?_
  refine C_seq ?_
  refine C_region ?_
  refine L_y rfl (y_loadA rfl ag_51 sz_51 (sees 0 0 rfl) (Nat.le_of_ble_eq_true rfl) rfl) rfl ?_
  refine L_op rfl (op_call rfl rfl (fun a w => Try.call79 a w) rfl ?_)
  refine (shmay_s segs size).mono ?_
  rintro _ _ ⟨rfl, e⟩
  obtain rfl := e.symm
  clear e
  rw [hm]
  refine ⟨_, rfl, ?_⟩
  refine L_y rfl (y_not rfl) rfl ?_
  refine L_y rfl (y_move rfl) rfl ?_
  refine L_y rfl (y_move rfl) rfl ?_
  refine L_y rfl (y_lss rfl rfl) rfl ?_
  refine L_y rfl (y_pick_f rfl rfl) rfl ?_
  refine L_y rfl (y_move rfl) rfl ?_
  refine L_case 15 rfl (fun hg1_8 => ?_) (fun hg1_8 => ?_)
  · exact absurd (of_decide_eq_true hg1_8) (by omega)
  · skip
    refine L_y rfl (y_move rfl) rfl ?_
    refine L_y rfl (y_loadA rfl ag_51 sz_51 (sees 0 0 rfl) (Nat.le_of_ble_eq_true rfl) rfl) rfl ?_
    refine L_op rfl (op_call rfl rfl (fun a w => Try.call80 a w) rfl ?_)
    refine (sectors_s segs size hm).mono ?_
    rintro _ _ ⟨rfl, e⟩
    obtain rfl := e.symm
    clear e
    refine ⟨_, rfl, ?_⟩
    refine L_y rfl (y_geq rfl rfl) rfl ?_
    refine L_y rfl (y_pick_f rfl rfl) rfl ?_
    refine L_nil ?_
    refine C_cond rfl (fun hc0 => absurd (of_decide_eq_true hc0) (by omega)) (fun hc0 => ?_)
    refine C_skip ?_
    refine C_seq ?_
    refine C_region ?_
    refine L_y rfl (y_move rfl) rfl ?_
    refine L_y rfl (y_sub rfl rfl (wi64 (by omega) (by omega))) rfl ?_
    refine L_y rfl (y_assign rfl) rfl ?_
    refine L_nil ?_
    refine C_seq ?_
    refine C_regionH0 (by kernel_rfl) ?_
    refine H_y 0 rfl (by kernel_rfl) (by kernel_rfl) (by kernel_rfl) (HSub.refl _) rfl (y_move rfl) rfl ?_
    refine H_y 1 rfl (by kernel_rfl) (by kernel_rfl) (by kernel_rfl) (HSub.refl _) rfl (y_fieldAddr rfl fl_51_1) rfl ?_
    refine H_y 2 rfl (by kernel_rfl) (by kernel_rfl) (by kernel_rfl) (HSub.refl _) rfl (y_load rfl ag_3 (sees 0 0 rfl) rfl) rfl ?_
    refine H_y 3 rfl (by kernel_rfl) (by kernel_rfl) (by kernel_rfl) (HSub.refl _) rfl (y_quo rfl rfl (by omega) (show _ = ((a - 2) / size : Int) from by rw [Int.tdiv_eq_ediv_of_nonneg (by omega)]; exact wi64 (by omega) (by omega))) rfl ?_
    refine H_y 4 rfl (by kernel_rfl) (by kernel_rfl) (by kernel_rfl) (HSub.refl _) rfl (y_move rfl) rfl ?_
    refine H_y 5 rfl (by kernel_rfl) (by kernel_rfl) (by kernel_rfl) (HSub.refl _) rfl (y_fieldAddr rfl fl_51_1) rfl ?_
    refine H_y 6 rfl (by kernel_rfl) (by kernel_rfl) (by kernel_rfl) (HSub.refl _) rfl (y_load rfl ag_3 (sees 0 0 rfl) rfl) rfl ?_
    refine H_y 7 rfl (by kernel_rfl) (by kernel_rfl) (by kernel_rfl) (HSub.refl _) rfl (y_rem rfl rfl (by omega) (show _ = ((a - 2) % size : Int) from by rw [Int.tmod_eq_emod_of_nonneg (by omega)])) rfl ?_
    refine H_y 8 rfl (by kernel_rfl) (by kernel_rfl) (by kernel_rfl) (HSub.refl _) rfl (y_assign rfl) rfl ?_
    refine H_y 9 rfl (by kernel_rfl) (by kernel_rfl) (by kernel_rfl) (HSub.refl _) rfl (y_assign rfl) rfl ?_
    refine H_y 10 rfl (by kernel_rfl) (by kernel_rfl) (by kernel_rfl) (HSub.refl _) rfl (y_assign rfl) rfl ?_
    refine H_done (by kernel_rfl) ?_
    refine C_ret ?_
    refine B_ret (rv_tmp rfl (rv_tmp rfl (rv_tmp rfl rv_nil))) (hsub (.cons _ (.refl _))) ?_
    exact ⟨rfl, rfl⟩

theorem of_s {w0 : World} {H : Hp} (segs size a : Int) : FnS Try.prog w0 40 #[shV segs size, .int .i64 a] H (fun e H' => e = .returned (.tuple #[.int .i64 ((ofS segs size a).getD 0), .int .i64 (if (ofS segs size a).isSome then (a - 2) % size else 0), .bool (ofS segs size a).isSome]) ∧ H' = H) := by
  cases hm : mayG segs size with
  | false => rw [ofS_no (.inl hm)]; exact of_n segs size hm a
  | true =>
    by_cases h1 : a < 2 ∨ 2 + segs * size ≤ a
    · rw [ofS_no (.inr h1)]; exact of_o segs size hm a h1
    · rw [ofS_yes hm (by omega) (by omega)]; exact of_y segs size hm a (by omega) (by omega)

end Go.Proofs.Ytaeooiogjhkjfaa

/- walks (own work; the walks' lines by a program of this repo). -/
set_option linter.unusedVariables false
set_option linter.unusedSimpArgs false
set_option maxRecDepth 20000
namespace Go.Proofs.Ytaeooiogjhkjfaa
open Go.Sl
attribute [local irreducible] BodyQ WpC WpL WpS WpH OpW FnS


theorem xnew_s {w0 : World} {H : Hp} (segs size : Int) : FnS Try.prog w0 28 #[shV segs size] H (fun e H' => ∃ o : Xo, e = .returned (ptr o.b) ∧ H' = o.seg 129 segs size Gm.new Gm.new :: H) := by
  refine FnS_intro (n := 8) (rs := [.tmp 2]) (vs := [shV segs size]) Try.func28 rfl Try.ntmps28 rfl rfl ?_
  refine C_seq ?_
  refine C_region ?_
  refine L_op rfl (op_box rfl rfl rfl (fun B1 => ?_))
  refine L_y rfl (y_assign rfl) rfl ?_
  refine L_nil ?_
  refine C_seq ?_
  refine C_region ?_
  refine L_y rfl (y_loadA rfl ag_51 sz_51 (sees 0 0 rfl) (Nat.le_of_ble_eq_true rfl) rfl) rfl ?_
  refine L_op rfl (op_makeMapG .u64 rfl (fun B2 => ?_))
  refine L_op rfl (op_makeMapG .i64 rfl (fun B3 => ?_))
  refine L_y rfl (y_build (vs := [(0, _), (1, _), (2, _)]) (l := [.int .i64 segs, .int .i64 size, .map (some B2), .map (some B3)]) rfl pl_129 zl_129 (fill_cons (off := 0) (m := 2) (vs := [_, _]) rfl rfl rfl (Nat.le_of_ble_eq_true rfl) (fill_cons (off := 2) (m := 1) (vs := [_]) rfl rfl rfl (Nat.le_of_ble_eq_true rfl) (fill_cons (off := 3) (m := 1) (vs := [_]) rfl rfl rfl (Nat.le_of_ble_eq_true rfl) rfl)))) rfl ?_
  refine L_op rfl (op_box rfl rfl rfl (fun B4 => ?_))
  refine L_y rfl (y_assign rfl) rfl ?_
  refine L_nil ?_
  refine C_ret ?_
  refine B_ret (rv_tmp rfl rv_nil) (xgroup (o := ⟨B4, B2, B3⟩) rfl) ?_
  exact ⟨⟨B4, B2, B3⟩, rfl, rfl⟩

theorem slot_0 {w0 : World} {H : Hp} {o : Xo} {segs size : Int} {A L : Gm} (n : Nat) (a : Int) (h0 : n = 0) : FnS Try.prog w0 75 #[ptr o.b, .int .u64 (n : Int), .int .i64 a] (o.seg 129 segs size A L :: H) (fun e H' => e = .returned (.tuple #[.int .i64 0, .int .i64 1]) ∧ H' = o.seg 129 segs size A L :: H) := by
  refine FnS_intro (n := 30) (rs := [.tmp 6, .tmp 7]) (vs := [ptr o.b, .int .u64 (n : Int), .int .i64 a]) Try.func75 rfl Try.ntmps75 rfl rfl ?_
  refine C_seq ?_
  refine C_region ?_
  refine L_y rfl (y_assign rfl) rfl ?_
  refine L_y rfl (y_assign rfl) rfl ?_
  refine L_nil ?_
  refine C_seq ?_
  refine C_seq ?_
  refine C_region ?_
  refine L_y rfl (y_move rfl) rfl ?_
  refine L_y rfl (y_eqp rfl rfl Try.underlying55) rfl ?_
  refine L_y rfl (y_move rfl) rfl ?_
  refine L_y rfl (y_move rfl) rfl ?_
  refine L_y rfl (y_eqi rfl rfl) rfl ?_
  refine L_y rfl (y_pick_f rfl rfl) rfl ?_
  refine L_nil ?_
  refine C_cond rfl (fun hc0 => ?_) (fun hc0 => absurd hc0 (by simp [h0]))
  refine C_seq ?_
  refine C_region ?_
  refine L_y rfl (y_assign rfl) rfl ?_
  refine L_y rfl (y_assign rfl) rfl ?_
  refine L_nil ?_
  refine C_ret ?_
  refine B_ret (rv_tmp rfl (rv_tmp rfl rv_nil)) ((hsub (.cons_cons _ (.refl _))).trans (hsub_pick [0] rfl)) ?_
  exact ⟨rfl, rfl⟩

theorem slot_n {w0 : World} {H : Hp} {o : Xo} {segs size : Int} {A L : Gm} (n : Nat) (a : Int) (h0 : n ≠ 0) : FnS Try.prog w0 75 #[ptr o.b, .int .u64 (n : Int), .int .i64 a] (o.seg 129 segs size A L :: H) (fun e H' => e = .returned (.tuple #[.int .i64 ((ofS segs size a).getD 0), .int .i64 (if (ofS segs size a).isSome then 0 else 2)]) ∧ H' = o.seg 129 segs size A L :: H) := by
  refine FnS_intro (n := 30) (rs := [.tmp 6, .tmp 7]) (vs := [ptr o.b, .int .u64 (n : Int), .int .i64 a]) Try.func75 rfl Try.ntmps75 rfl rfl ?_
  refine C_seq ?_
  refine C_region ?_
  refine L_y rfl (y_assign rfl) rfl ?_
  refine L_y rfl (y_assign rfl) rfl ?_
  refine L_nil ?_
  refine C_seq ?_
  refine C_seq ?_
  refine C_region ?_
  refine L_y rfl (y_move rfl) rfl ?_
  refine L_y rfl (y_eqp rfl rfl Try.underlying55) rfl ?_
  refine L_y rfl (y_move rfl) rfl ?_
  refine L_y rfl (y_move rfl) rfl ?_
  refine L_y rfl (y_eqi rfl rfl) rfl ?_
  refine L_y rfl (y_pick_f rfl rfl) rfl ?_
  refine L_nil ?_
  refine C_cond rfl (fun hc0 => absurd hc0 (by simp <;> omega)) (fun hc0 => ?_)
  refine C_skip ?_
  refine C_seq ?_
  refine C_region ?_
  refine L_y rfl (y_move rfl) rfl ?_
  refine L_y rfl (y_nilCheck rfl) rfl ?_
  refine L_y rfl (y_fieldAddr rfl fl_129_0) rfl ?_
  refine L_y rfl (y_loadA rfl ag_51 sz_51 (sees 0 0 rfl) (Nat.le_of_ble_eq_true rfl) rfl) rfl ?_
  refine L_y rfl (y_move rfl) rfl ?_
  refine L_op rfl (op_call rfl rfl (fun a w => Try.call40 a w) rfl ?_)
  refine (of_s segs size a).mono ?_
  rintro _ _ ⟨rfl, e⟩
  obtain rfl := e.symm
  clear e
  refine ⟨_, rfl, ?_⟩
  refine L_y rfl (y_move rfl) rfl ?_
  refine L_y rfl (y_extract rfl rfl) rfl ?_
  refine L_y rfl (y_extract rfl rfl) rfl ?_
  refine L_y rfl (y_extract rfl rfl) rfl ?_
  refine L_y rfl (y_assign rfl) rfl ?_
  refine L_y rfl (y_assign rfl) rfl ?_
  refine L_y rfl (y_assign rfl) rfl ?_
  refine L_nil ?_
  refine C_seq ?_
  refine C_seq ?_
  refine C_region ?_
  refine L_y rfl (y_move rfl) rfl ?_
  refine L_y rfl (y_not rfl) rfl ?_
  refine L_nil ?_
  refine C_cond rfl (fun hc1 => ?_) (fun hc1 => ?_)
  · skip
    refine C_seq ?_
    refine C_region ?_
    refine L_y rfl (y_assign rfl) rfl ?_
    refine L_y rfl (y_assign rfl) rfl ?_
    refine L_nil ?_
    refine C_ret ?_
    refine B_ret (rv_tmp rfl (rv_tmp rfl rv_nil)) ((hsub (.cons_cons _ (.refl _))).trans (hsub_pick [0] rfl)) ?_
    refine ⟨?_, rfl⟩
    cases hq : ofS segs size a <;> rw [hq] at hc1 <;> first | rfl | exact absurd hc1 (by simp)
  · skip
    refine C_skip ?_
    refine C_seq ?_
    refine C_region ?_
    refine L_y rfl (y_move rfl) rfl ?_
    refine L_y rfl (y_assign rfl) rfl ?_
    refine L_y rfl (y_assign rfl) rfl ?_
    refine L_nil ?_
    refine C_ret ?_
    refine B_ret (rv_tmp rfl (rv_tmp rfl rv_nil)) ((hsub (.cons_cons _ (.refl _))).trans (hsub_pick [0] rfl)) ?_
    refine ⟨?_, rfl⟩
    cases hq : ofS segs size a <;> rw [hq] at hc1 <;> first | rfl | exact absurd hc1 (by simp)

theorem xput_0 {w0 : World} {H : Hp} {o : Xo} {segs size : Int} {l : Xl} {A L : Gm} (h : Xm segs size l A L) (n : Nat) (hn : n < 18446744073709551616) (a : Int) (hl : l.length < 4611686018427387904) (h0 : n = 0) : FnS Try.prog w0 29 #[ptr o.b, .int .u64 (n : Int), .int .i64 a] (o.seg 129 segs size A L :: H) (fun e H' => e = .returned (.int .i64 (xput segs size l n a false).2) ∧ ∃ A' L', Xm segs size (xput segs size l n a false).1 A' L' ∧ H' = o.seg 129 segs size A' L' :: H) := by
  refine FnS_intro (n := 44) (rs := [.tmp 6]) (vs := [ptr o.b, .int .u64 (n : Int), .int .i64 a]) Try.func29 rfl Try.ntmps29 rfl rfl ?_
  refine C_seq ?_
  refine C_region ?_
  refine L_y rfl (y_assign rfl) rfl ?_
  refine L_nil ?_
  refine C_seq ?_
  refine C_region ?_
  refine L_y rfl (y_move rfl) rfl ?_
  refine L_y rfl (y_move rfl) rfl ?_
  refine L_y rfl (y_move rfl) rfl ?_
  refine L_op rfl (op_call rfl rfl (fun a w => Try.call75 a w) rfl ?_)
  refine (slot_0 n a h0).mono ?_
  rintro _ _ ⟨rfl, rfl⟩
  refine ⟨_, rfl, ?_⟩
  refine L_y rfl (y_move rfl) rfl ?_
  refine L_y rfl (y_extract rfl rfl) rfl ?_
  refine L_y rfl (y_extract rfl rfl) rfl ?_
  refine L_y rfl (y_assign rfl) rfl ?_
  refine L_y rfl (y_assign rfl) rfl ?_
  refine L_nil ?_
  refine C_seq ?_
  refine C_seq ?_
  refine C_region ?_
  refine L_y rfl (y_move rfl) rfl ?_
  refine L_y rfl (y_nei rfl rfl) rfl ?_
  refine L_nil ?_
  refine C_cond_t rfl ?_
  refine C_seq ?_
  refine C_region ?_
  refine L_y rfl (y_move rfl) rfl ?_
  refine L_y rfl (y_assign rfl) rfl ?_
  refine L_nil ?_
  refine C_ret ?_
  refine B_ret (rv_tmp rfl rv_nil) ((hsub (.cons_cons _ (.refl _))).trans (hsub_pick [0] rfl)) ?_
  have e4 : xput segs size l n a false = (l, 1) := by simp [xput, h0]
  rw [e4]
  exact ⟨rfl, A, L, h, rfl⟩

theorem xput_r {w0 : World} {H : Hp} {o : Xo} {segs size : Int} {l : Xl} {A L : Gm} (h : Xm segs size l A L) (n : Nat) (hn : n < 18446744073709551616) (a : Int) (hl : l.length < 4611686018427387904) (h0 : n ≠ 0) (ho : ofS segs size a = none) : FnS Try.prog w0 29 #[ptr o.b, .int .u64 (n : Int), .int .i64 a] (o.seg 129 segs size A L :: H) (fun e H' => e = .returned (.int .i64 (xput segs size l n a false).2) ∧ ∃ A' L', Xm segs size (xput segs size l n a false).1 A' L' ∧ H' = o.seg 129 segs size A' L' :: H) := by
  refine FnS_intro (n := 44) (rs := [.tmp 6]) (vs := [ptr o.b, .int .u64 (n : Int), .int .i64 a]) Try.func29 rfl Try.ntmps29 rfl rfl ?_
  refine C_seq ?_
  refine C_region ?_
  refine L_y rfl (y_assign rfl) rfl ?_
  refine L_nil ?_
  refine C_seq ?_
  refine C_region ?_
  refine L_y rfl (y_move rfl) rfl ?_
  refine L_y rfl (y_move rfl) rfl ?_
  refine L_y rfl (y_move rfl) rfl ?_
  refine L_op rfl (op_call rfl rfl (fun a w => Try.call75 a w) rfl ?_)
  have hz := slot_n (w0 := w0) (H := H) (o := o) (segs := segs) (size := size) (A := A) (L := L) n a h0
  rw [ho] at hz
  try simp only [Option.getD_some, Option.isSome_some, if_true] at hz
  refine hz.mono ?_
  rintro _ _ ⟨rfl, rfl⟩
  refine ⟨_, rfl, ?_⟩
  refine L_y rfl (y_move rfl) rfl ?_
  refine L_y rfl (y_extract rfl rfl) rfl ?_
  refine L_y rfl (y_extract rfl rfl) rfl ?_
  refine L_y rfl (y_assign rfl) rfl ?_
  refine L_y rfl (y_assign rfl) rfl ?_
  refine L_nil ?_
  refine C_seq ?_
  refine C_seq ?_
  refine C_region ?_
  refine L_y rfl (y_move rfl) rfl ?_
  refine L_y rfl (y_nei rfl rfl) rfl ?_
  refine L_nil ?_
  refine C_cond_t rfl ?_
  refine C_seq ?_
  refine C_region ?_
  refine L_y rfl (y_move rfl) rfl ?_
  refine L_y rfl (y_assign rfl) rfl ?_
  refine L_nil ?_
  refine C_ret ?_
  refine B_ret (rv_tmp rfl rv_nil) ((hsub (.cons_cons _ (.refl _))).trans (hsub_pick [0] rfl)) ?_
  have e4 : xput segs size l n a false = (l, 2) := by simp [xput, h0, ho]
  rw [e4]
  exact ⟨rfl, A, L, h, rfl⟩

theorem xmove_0 {w0 : World} {H : Hp} {o : Xo} {segs size : Int} {l : Xl} {A L : Gm} (h : Xm segs size l A L) (n : Nat) (hn : n < 18446744073709551616) (a : Int) (hl : l.length < 4611686018427387904) (h0 : n = 0) : FnS Try.prog w0 42 #[ptr o.b, .int .u64 (n : Int), .int .i64 a] (o.seg 129 segs size A L :: H) (fun e H' => e = .returned (.int .i64 (xput segs size l n a true).2) ∧ ∃ A' L', Xm segs size (xput segs size l n a true).1 A' L' ∧ H' = o.seg 129 segs size A' L' :: H) := by
  refine FnS_intro (n := 65) (rs := [.tmp 6]) (vs := [ptr o.b, .int .u64 (n : Int), .int .i64 a]) Try.func42 rfl Try.ntmps42 rfl rfl ?_
  refine C_seq ?_
  refine C_region ?_
  refine L_y rfl (y_assign rfl) rfl ?_
  refine L_nil ?_
  refine C_seq ?_
  refine C_region ?_
  refine L_y rfl (y_move rfl) rfl ?_
  refine L_y rfl (y_move rfl) rfl ?_
  refine L_y rfl (y_move rfl) rfl ?_
  refine L_op rfl (op_call rfl rfl (fun a w => Try.call75 a w) rfl ?_)
  refine (slot_0 n a h0).mono ?_
  rintro _ _ ⟨rfl, rfl⟩
  refine ⟨_, rfl, ?_⟩
  refine L_y rfl (y_move rfl) rfl ?_
  refine L_y rfl (y_extract rfl rfl) rfl ?_
  refine L_y rfl (y_extract rfl rfl) rfl ?_
  refine L_y rfl (y_assign rfl) rfl ?_
  refine L_y rfl (y_assign rfl) rfl ?_
  refine L_nil ?_
  refine C_seq ?_
  refine C_seq ?_
  refine C_region ?_
  refine L_y rfl (y_move rfl) rfl ?_
  refine L_y rfl (y_nei rfl rfl) rfl ?_
  refine L_nil ?_
  refine C_cond_t rfl ?_
  refine C_seq ?_
  refine C_region ?_
  refine L_y rfl (y_move rfl) rfl ?_
  refine L_y rfl (y_assign rfl) rfl ?_
  refine L_nil ?_
  refine C_ret ?_
  refine B_ret (rv_tmp rfl rv_nil) ((hsub (.cons_cons _ (.refl _))).trans (hsub_pick [0] rfl)) ?_
  have e4 : xput segs size l n a true = (l, 1) := by simp [xput, h0]
  rw [e4]
  exact ⟨rfl, A, L, h, rfl⟩

theorem xmove_r {w0 : World} {H : Hp} {o : Xo} {segs size : Int} {l : Xl} {A L : Gm} (h : Xm segs size l A L) (n : Nat) (hn : n < 18446744073709551616) (a : Int) (hl : l.length < 4611686018427387904) (h0 : n ≠ 0) (ho : ofS segs size a = none) : FnS Try.prog w0 42 #[ptr o.b, .int .u64 (n : Int), .int .i64 a] (o.seg 129 segs size A L :: H) (fun e H' => e = .returned (.int .i64 (xput segs size l n a true).2) ∧ ∃ A' L', Xm segs size (xput segs size l n a true).1 A' L' ∧ H' = o.seg 129 segs size A' L' :: H) := by
  refine FnS_intro (n := 65) (rs := [.tmp 6]) (vs := [ptr o.b, .int .u64 (n : Int), .int .i64 a]) Try.func42 rfl Try.ntmps42 rfl rfl ?_
  refine C_seq ?_
  refine C_region ?_
  refine L_y rfl (y_assign rfl) rfl ?_
  refine L_nil ?_
  refine C_seq ?_
  refine C_region ?_
  refine L_y rfl (y_move rfl) rfl ?_
  refine L_y rfl (y_move rfl) rfl ?_
  refine L_y rfl (y_move rfl) rfl ?_
  refine L_op rfl (op_call rfl rfl (fun a w => Try.call75 a w) rfl ?_)
  have hz := slot_n (w0 := w0) (H := H) (o := o) (segs := segs) (size := size) (A := A) (L := L) n a h0
  rw [ho] at hz
  try simp only [Option.getD_some, Option.isSome_some, if_true] at hz
  refine hz.mono ?_
  rintro _ _ ⟨rfl, rfl⟩
  refine ⟨_, rfl, ?_⟩
  refine L_y rfl (y_move rfl) rfl ?_
  refine L_y rfl (y_extract rfl rfl) rfl ?_
  refine L_y rfl (y_extract rfl rfl) rfl ?_
  refine L_y rfl (y_assign rfl) rfl ?_
  refine L_y rfl (y_assign rfl) rfl ?_
  refine L_nil ?_
  refine C_seq ?_
  refine C_seq ?_
  refine C_region ?_
  refine L_y rfl (y_move rfl) rfl ?_
  refine L_y rfl (y_nei rfl rfl) rfl ?_
  refine L_nil ?_
  refine C_cond_t rfl ?_
  refine C_seq ?_
  refine C_region ?_
  refine L_y rfl (y_move rfl) rfl ?_
  refine L_y rfl (y_assign rfl) rfl ?_
  refine L_nil ?_
  refine C_ret ?_
  refine B_ret (rv_tmp rfl rv_nil) ((hsub (.cons_cons _ (.refl _))).trans (hsub_pick [0] rfl)) ?_
  have e4 : xput segs size l n a true = (l, 2) := by simp [xput, h0, ho]
  rw [e4]
  exact ⟨rfl, A, L, h, rfl⟩

theorem xput_t {w0 : World} {H : Hp} {o : Xo} {segs size : Int} {l : Xl} {A L : Gm} (h : Xm segs size l A L) (n : Nat) (hn : n < 18446744073709551616) (a : Int) (hl : l.length < 4611686018427387904) (h0 : n ≠ 0) {s : Int} (ho : ofS segs size a = some s) {b : Int} (hf : xfind l n = some b) : FnS Try.prog w0 29 #[ptr o.b, .int .u64 (n : Int), .int .i64 a] (o.seg 129 segs size A L :: H) (fun e H' => e = .returned (.int .i64 (xput segs size l n a false).2) ∧ ∃ A' L', Xm segs size (xput segs size l n a false).1 A' L' ∧ H' = o.seg 129 segs size A' L' :: H) := by
  refine FnS_intro (n := 44) (rs := [.tmp 6]) (vs := [ptr o.b, .int .u64 (n : Int), .int .i64 a]) Try.func29 rfl Try.ntmps29 rfl rfl ?_
  refine C_seq ?_
  refine C_region ?_
  refine L_y rfl (y_assign rfl) rfl ?_
  refine L_nil ?_
  refine C_seq ?_
  refine C_region ?_
  refine L_y rfl (y_move rfl) rfl ?_
  refine L_y rfl (y_move rfl) rfl ?_
  refine L_y rfl (y_move rfl) rfl ?_
  refine L_op rfl (op_call rfl rfl (fun a w => Try.call75 a w) rfl ?_)
  have hz := slot_n (w0 := w0) (H := H) (o := o) (segs := segs) (size := size) (A := A) (L := L) n a h0
  rw [ho] at hz
  try simp only [Option.getD_some, Option.isSome_some, if_true] at hz
  refine hz.mono ?_
  rintro _ _ ⟨rfl, rfl⟩
  refine ⟨_, rfl, ?_⟩
  refine L_y rfl (y_move rfl) rfl ?_
  refine L_y rfl (y_extract rfl rfl) rfl ?_
  refine L_y rfl (y_extract rfl rfl) rfl ?_
  refine L_y rfl (y_assign rfl) rfl ?_
  refine L_y rfl (y_assign rfl) rfl ?_
  refine L_nil ?_
  refine C_seq ?_
  refine C_seq ?_
  refine C_region ?_
  refine L_y rfl (y_move rfl) rfl ?_
  refine L_y rfl (y_nei rfl rfl) rfl ?_
  refine L_nil ?_
  refine C_cond_f rfl ?_
  refine C_skip ?_
  refine C_seq ?_
  refine C_seq ?_
  refine C_region ?_
  refine L_y rfl (y_move rfl) rfl ?_
  refine L_y rfl (y_nilCheck rfl) rfl ?_
  refine L_y rfl (y_fieldAddr rfl fl_129_1) rfl ?_
  refine L_y rfl (y_load rfl ag_126 (sees 0 0 rfl) rfl) rfl ?_
  refine L_y rfl (y_move rfl) rfl ?_
  refine L_y rfl (y_lookupG2 rfl rfl Try.underlying126 Try.underlying58 zt_3 (sees 0 1 rfl)) rfl ?_
  rw [h.get, hf]
  refine L_y rfl (y_move rfl) rfl ?_
  refine L_y rfl (y_extract rfl rfl) rfl ?_
  refine L_y rfl (y_extract rfl rfl) rfl ?_
  refine L_y rfl (y_assign rfl) rfl ?_
  refine L_y rfl (y_assign rfl) rfl ?_
  refine L_nil ?_
  refine C_seq ?_
  refine C_region ?_
  refine L_y rfl (y_move rfl) rfl ?_
  refine L_nil ?_
  refine C_cond_t rfl ?_
  refine C_seq ?_
  refine C_region ?_
  refine L_y rfl (y_assign rfl) rfl ?_
  refine L_nil ?_
  refine C_ret ?_
  refine B_ret (rv_tmp rfl rv_nil) ((hsub (.cons_cons _ (.refl _))).trans (hsub_pick [0] rfl)) ?_
  have e4 : xput segs size l n a false = (l, 5) := by simp [xput, h0, ho, hf]
  rw [e4]
  exact ⟨rfl, A, L, h, rfl⟩

theorem xput_y {w0 : World} {H : Hp} {o : Xo} {segs size : Int} {l : Xl} {A L : Gm} (h : Xm segs size l A L) (n : Nat) (hn : n < 18446744073709551616) (a : Int) (hl : l.length < 4611686018427387904) (h0 : n ≠ 0) {s : Int} (ho : ofS segs size a = some s) (hf : xfind l n = none) : FnS Try.prog w0 29 #[ptr o.b, .int .u64 (n : Int), .int .i64 a] (o.seg 129 segs size A L :: H) (fun e H' => e = .returned (.int .i64 (xput segs size l n a false).2) ∧ ∃ A' L', Xm segs size (xput segs size l n a false).1 A' L' ∧ H' = o.seg 129 segs size A' L' :: H) := by
  have hc := cnt_le segs size l s
  refine FnS_intro (n := 44) (rs := [.tmp 6]) (vs := [ptr o.b, .int .u64 (n : Int), .int .i64 a]) Try.func29 rfl Try.ntmps29 rfl rfl ?_
  refine C_seq ?_
  refine C_region ?_
  refine L_y rfl (y_assign rfl) rfl ?_
  refine L_nil ?_
  refine C_seq ?_
  refine C_region ?_
  refine L_y rfl (y_move rfl) rfl ?_
  refine L_y rfl (y_move rfl) rfl ?_
  refine L_y rfl (y_move rfl) rfl ?_
  refine L_op rfl (op_call rfl rfl (fun a w => Try.call75 a w) rfl ?_)
  have hz := slot_n (w0 := w0) (H := H) (o := o) (segs := segs) (size := size) (A := A) (L := L) n a h0
  rw [ho] at hz
  try simp only [Option.getD_some, Option.isSome_some, if_true] at hz
  refine hz.mono ?_
  rintro _ _ ⟨rfl, rfl⟩
  refine ⟨_, rfl, ?_⟩
  refine L_y rfl (y_move rfl) rfl ?_
  refine L_y rfl (y_extract rfl rfl) rfl ?_
  refine L_y rfl (y_extract rfl rfl) rfl ?_
  refine L_y rfl (y_assign rfl) rfl ?_
  refine L_y rfl (y_assign rfl) rfl ?_
  refine L_nil ?_
  refine C_seq ?_
  refine C_seq ?_
  refine C_region ?_
  refine L_y rfl (y_move rfl) rfl ?_
  refine L_y rfl (y_nei rfl rfl) rfl ?_
  refine L_nil ?_
  refine C_cond_f rfl ?_
  refine C_skip ?_
  refine C_seq ?_
  refine C_seq ?_
  refine C_region ?_
  refine L_y rfl (y_move rfl) rfl ?_
  refine L_y rfl (y_nilCheck rfl) rfl ?_
  refine L_y rfl (y_fieldAddr rfl fl_129_1) rfl ?_
  refine L_y rfl (y_load rfl ag_126 (sees 0 0 rfl) rfl) rfl ?_
  refine L_y rfl (y_move rfl) rfl ?_
  refine L_y rfl (y_lookupG2 rfl rfl Try.underlying126 Try.underlying58 zt_3 (sees 0 1 rfl)) rfl ?_
  rw [h.get, hf]
  refine L_y rfl (y_move rfl) rfl ?_
  refine L_y rfl (y_extract rfl rfl) rfl ?_
  refine L_y rfl (y_extract rfl rfl) rfl ?_
  refine L_y rfl (y_assign rfl) rfl ?_
  refine L_y rfl (y_assign rfl) rfl ?_
  refine L_nil ?_
  refine C_seq ?_
  refine C_region ?_
  refine L_y rfl (y_move rfl) rfl ?_
  refine L_nil ?_
  refine C_cond_f rfl ?_
  refine C_skip ?_
  refine C_seq ?_
  refine C_region ?_
  refine L_y rfl (y_move rfl) rfl ?_
  refine L_y rfl (y_nilCheck rfl) rfl ?_
  refine L_y rfl (y_fieldAddr rfl fl_129_1) rfl ?_
  refine L_y rfl (y_load rfl ag_126 (sees 0 0 rfl) rfl) rfl ?_
  refine L_y rfl (y_move rfl) rfl ?_
  refine L_y rfl (y_move rfl) rfl ?_
  refine L_op rfl (op_mapUpdateG 0 1 rfl rfl rfl Try.underlying126 Try.underlying58 h.okA rfl rfl ?_)
  refine L_nil ?_
  refine C_seq ?_
  refine C_region ?_
  refine L_y rfl (y_move rfl) rfl ?_
  refine L_y rfl (y_nilCheck rfl) rfl ?_
  refine L_y rfl (y_fieldAddr rfl fl_129_2) rfl ?_
  refine L_y rfl (y_load rfl ag_127 (sees 0 0 rfl) rfl) rfl ?_
  refine L_y rfl (y_move rfl) rfl ?_
  refine L_y rfl (y_lookupG rfl rfl Try.underlying127 Try.underlying3 zt_3 (sees 0 2 rfl)) rfl ?_
  rw [h.liv]
  refine L_y rfl (y_add rfl rfl (wi64 (by omega) (by omega))) rfl ?_
  refine L_op rfl (op_mapUpdateG 0 2 rfl rfl rfl Try.underlying127 Try.underlying3 h.okL rfl rfl ?_)
  refine L_nil ?_
  refine C_seq ?_
  refine C_region ?_
  refine L_y rfl (y_assign rfl) rfl ?_
  refine L_nil ?_
  refine C_ret ?_
  refine B_ret (rv_tmp rfl rv_nil) ((hsub (.cons_cons _ (.refl _))).trans (hsub_pick [0] rfl)) ?_
  have e4 : xput segs size l n a false = (xins l n a, 0) := by simp [xput, h0, ho, hf]
  rw [e4]
  exact ⟨rfl, _, _, h.put h0 hn hf ho, rfl⟩

theorem xmove_n {w0 : World} {H : Hp} {o : Xo} {segs size : Int} {l : Xl} {A L : Gm} (h : Xm segs size l A L) (n : Nat) (hn : n < 18446744073709551616) (a : Int) (hl : l.length < 4611686018427387904) (h0 : n ≠ 0) {s : Int} (ho : ofS segs size a = some s) (hf : xfind l n = none) : FnS Try.prog w0 42 #[ptr o.b, .int .u64 (n : Int), .int .i64 a] (o.seg 129 segs size A L :: H) (fun e H' => e = .returned (.int .i64 (xput segs size l n a true).2) ∧ ∃ A' L', Xm segs size (xput segs size l n a true).1 A' L' ∧ H' = o.seg 129 segs size A' L' :: H) := by
  refine FnS_intro (n := 65) (rs := [.tmp 6]) (vs := [ptr o.b, .int .u64 (n : Int), .int .i64 a]) Try.func42 rfl Try.ntmps42 rfl rfl ?_
  refine C_seq ?_
  refine C_region ?_
  refine L_y rfl (y_assign rfl) rfl ?_
  refine L_nil ?_
  refine C_seq ?_
  refine C_region ?_
  refine L_y rfl (y_move rfl) rfl ?_
  refine L_y rfl (y_move rfl) rfl ?_
  refine L_y rfl (y_move rfl) rfl ?_
  refine L_op rfl (op_call rfl rfl (fun a w => Try.call75 a w) rfl ?_)
  have hz := slot_n (w0 := w0) (H := H) (o := o) (segs := segs) (size := size) (A := A) (L := L) n a h0
  rw [ho] at hz
  try simp only [Option.getD_some, Option.isSome_some, if_true] at hz
  refine hz.mono ?_
  rintro _ _ ⟨rfl, rfl⟩
  refine ⟨_, rfl, ?_⟩
  refine L_y rfl (y_move rfl) rfl ?_
  refine L_y rfl (y_extract rfl rfl) rfl ?_
  refine L_y rfl (y_extract rfl rfl) rfl ?_
  refine L_y rfl (y_assign rfl) rfl ?_
  refine L_y rfl (y_assign rfl) rfl ?_
  refine L_nil ?_
  refine C_seq ?_
  refine C_seq ?_
  refine C_region ?_
  refine L_y rfl (y_move rfl) rfl ?_
  refine L_y rfl (y_nei rfl rfl) rfl ?_
  refine L_nil ?_
  refine C_cond_f rfl ?_
  refine C_skip ?_
  refine C_seq ?_
  refine C_region ?_
  refine L_y rfl (y_move rfl) rfl ?_
  refine L_y rfl (y_nilCheck rfl) rfl ?_
  refine L_y rfl (y_fieldAddr rfl fl_129_1) rfl ?_
  refine L_y rfl (y_load rfl ag_126 (sees 0 0 rfl) rfl) rfl ?_
  refine L_y rfl (y_move rfl) rfl ?_
  refine L_y rfl (y_lookupG2 rfl rfl Try.underlying126 Try.underlying58 zt_3 (sees 0 1 rfl)) rfl ?_
  rw [h.get, hf]
  refine L_y rfl (y_move rfl) rfl ?_
  refine L_y rfl (y_extract rfl rfl) rfl ?_
  refine L_y rfl (y_extract rfl rfl) rfl ?_
  refine L_y rfl (y_assign rfl) rfl ?_
  refine L_y rfl (y_assign rfl) rfl ?_
  refine L_nil ?_
  refine C_seq ?_
  refine C_seq ?_
  refine C_region ?_
  refine L_y rfl (y_move rfl) rfl ?_
  refine L_y rfl (y_not rfl) rfl ?_
  refine L_nil ?_
  refine C_cond_t rfl ?_
  refine C_seq ?_
  refine C_region ?_
  refine L_y rfl (y_assign rfl) rfl ?_
  refine L_nil ?_
  refine C_ret ?_
  refine B_ret (rv_tmp rfl rv_nil) ((hsub (.cons_cons _ (.refl _))).trans (hsub_pick [0] rfl)) ?_
  have e4 : xput segs size l n a true = (l, 4) := by simp [xput, h0, ho, hf]
  rw [e4]
  exact ⟨rfl, A, L, h, rfl⟩

theorem xmove_y {w0 : World} {H : Hp} {o : Xo} {segs size : Int} {l : Xl} {A L : Gm} (h : Xm segs size l A L) (n : Nat) (hn : n < 18446744073709551616) (a : Int) (hl : l.length < 4611686018427387904) (h0 : n ≠ 0) {s : Int} (ho : ofS segs size a = some s) {b t : Int} (hf : xfind l n = some b) (hb : ofS segs size b = some t) : FnS Try.prog w0 42 #[ptr o.b, .int .u64 (n : Int), .int .i64 a] (o.seg 129 segs size A L :: H) (fun e H' => e = .returned (.int .i64 (xput segs size l n a true).2) ∧ ∃ A' L', Xm segs size (xput segs size l n a true).1 A' L' ∧ H' = o.seg 129 segs size A' L' :: H) := by
  have hc := cnt_le segs size l s
  have hc2 := cnt_le segs size l t
  obtain ⟨c, hcc⟩ : ∃ c : Int, c = cnt18 segs size l s - (if s = t then 1 else 0) := ⟨_, rfl⟩
  have hdc := xdel_cnt (segs := segs) (size := size) h.s hf t
  rw [hb, if_pos rfl] at hdc
  have hc3 : -1 ≤ c ∧ c ≤ 4611686018427387904 := by split at hcc <;> omega
  have hg2 : (((L.put t (.int .i64 (cnt18 segs size l t - 1 : Int))).get s).getD (.int .i64 0)) = .int .i64 c := by
    rw [Gm.get_put, hcc]
    by_cases e : s = t
    · subst e; rw [if_pos rfl, if_pos rfl]; rfl
    · rw [if_neg e, if_neg e, h.liv]; simp
  refine FnS_intro (n := 65) (rs := [.tmp 6]) (vs := [ptr o.b, .int .u64 (n : Int), .int .i64 a]) Try.func42 rfl Try.ntmps42 rfl rfl ?_
  refine C_seq ?_
  refine C_region ?_
  refine L_y rfl (y_assign rfl) rfl ?_
  refine L_nil ?_
  refine C_seq ?_
  refine C_region ?_
  refine L_y rfl (y_move rfl) rfl ?_
  refine L_y rfl (y_move rfl) rfl ?_
  refine L_y rfl (y_move rfl) rfl ?_
  refine L_op rfl (op_call rfl rfl (fun a w => Try.call75 a w) rfl ?_)
  have hz := slot_n (w0 := w0) (H := H) (o := o) (segs := segs) (size := size) (A := A) (L := L) n a h0
  rw [ho] at hz
  try simp only [Option.getD_some, Option.isSome_some, if_true] at hz
  refine hz.mono ?_
  rintro _ _ ⟨rfl, rfl⟩
  refine ⟨_, rfl, ?_⟩
  refine L_y rfl (y_move rfl) rfl ?_
  refine L_y rfl (y_extract rfl rfl) rfl ?_
  refine L_y rfl (y_extract rfl rfl) rfl ?_
  refine L_y rfl (y_assign rfl) rfl ?_
  refine L_y rfl (y_assign rfl) rfl ?_
  refine L_nil ?_
  refine C_seq ?_
  refine C_seq ?_
  refine C_region ?_
  refine L_y rfl (y_move rfl) rfl ?_
  refine L_y rfl (y_nei rfl rfl) rfl ?_
  refine L_nil ?_
  refine C_cond_f rfl ?_
  refine C_skip ?_
  refine C_seq ?_
  refine C_region ?_
  refine L_y rfl (y_move rfl) rfl ?_
  refine L_y rfl (y_nilCheck rfl) rfl ?_
  refine L_y rfl (y_fieldAddr rfl fl_129_1) rfl ?_
  refine L_y rfl (y_load rfl ag_126 (sees 0 0 rfl) rfl) rfl ?_
  refine L_y rfl (y_move rfl) rfl ?_
  refine L_y rfl (y_lookupG2 rfl rfl Try.underlying126 Try.underlying58 zt_3 (sees 0 1 rfl)) rfl ?_
  rw [h.get, hf]
  refine L_y rfl (y_move rfl) rfl ?_
  refine L_y rfl (y_extract rfl rfl) rfl ?_
  refine L_y rfl (y_extract rfl rfl) rfl ?_
  refine L_y rfl (y_assign rfl) rfl ?_
  refine L_y rfl (y_assign rfl) rfl ?_
  refine L_nil ?_
  refine C_seq ?_
  refine C_seq ?_
  refine C_region ?_
  refine L_y rfl (y_move rfl) rfl ?_
  refine L_y rfl (y_not rfl) rfl ?_
  refine L_nil ?_
  refine C_cond_f rfl ?_
  refine C_skip ?_
  refine C_seq ?_
  refine C_region ?_
  refine L_y rfl (y_move rfl) rfl ?_
  refine L_y rfl (y_nilCheck rfl) rfl ?_
  refine L_y rfl (y_fieldAddr rfl fl_129_0) rfl ?_
  refine L_y rfl (y_loadA rfl ag_51 sz_51 (sees 0 0 rfl) (Nat.le_of_ble_eq_true rfl) rfl) rfl ?_
  refine L_y rfl (y_move rfl) rfl ?_
  refine L_op rfl (op_call rfl rfl (fun a w => Try.call40 a w) rfl ?_)
  have hz := of_s (w0 := w0) (H := (o.seg 129 segs size A L :: H)) segs size b
  rw [hb] at hz
  try simp only [Option.getD_some, Option.isSome_some, if_true] at hz
  refine hz.mono ?_
  rintro _ _ ⟨rfl, rfl⟩
  refine ⟨_, rfl, ?_⟩
  refine L_y rfl (y_move rfl) rfl ?_
  refine L_y rfl (y_extract rfl rfl) rfl ?_
  refine L_y rfl (y_extract rfl rfl) rfl ?_
  refine L_y rfl (y_extract rfl rfl) rfl ?_
  refine L_y rfl (y_assign rfl) rfl ?_
  refine L_y rfl (y_assign rfl) rfl ?_
  refine L_y rfl (y_assign rfl) rfl ?_
  refine L_nil ?_
  refine C_seq ?_
  refine C_region ?_
  refine L_y rfl (y_move rfl) rfl ?_
  refine L_y rfl (y_nilCheck rfl) rfl ?_
  refine L_y rfl (y_fieldAddr rfl fl_129_2) rfl ?_
  refine L_y rfl (y_load rfl ag_127 (sees 0 0 rfl) rfl) rfl ?_
  refine L_y rfl (y_move rfl) rfl ?_
  refine L_y rfl (y_lookupG rfl rfl Try.underlying127 Try.underlying3 zt_3 (sees 0 2 rfl)) rfl ?_
  rw [h.liv]
  refine L_y rfl (y_sub rfl rfl (wi64 (by omega) (by omega))) rfl ?_
  refine L_op rfl (op_mapUpdateG 0 2 rfl rfl rfl Try.underlying127 Try.underlying3 h.okL rfl rfl ?_)
  refine L_nil ?_
  refine C_seq ?_
  refine C_region ?_
  refine L_y rfl (y_move rfl) rfl ?_
  refine L_y rfl (y_nilCheck rfl) rfl ?_
  refine L_y rfl (y_fieldAddr rfl fl_129_2) rfl ?_
  refine L_y rfl (y_load rfl ag_127 (sees 0 0 rfl) rfl) rfl ?_
  refine L_y rfl (y_move rfl) rfl ?_
  refine L_y rfl (y_lookupG rfl rfl Try.underlying127 Try.underlying3 zt_3 (sees 0 2 rfl)) rfl ?_
  rw [hg2]
  refine L_y rfl (y_add rfl rfl (wi64 (by omega) (by omega))) rfl ?_
  refine L_op rfl (op_mapUpdateG 0 2 rfl rfl rfl Try.underlying127 Try.underlying3 (Gm.put_ok h.okL _ _) rfl rfl ?_)
  refine L_nil ?_
  refine C_seq ?_
  refine C_region ?_
  refine L_y rfl (y_move rfl) rfl ?_
  refine L_y rfl (y_nilCheck rfl) rfl ?_
  refine L_y rfl (y_fieldAddr rfl fl_129_1) rfl ?_
  refine L_y rfl (y_load rfl ag_126 (sees 0 0 rfl) rfl) rfl ?_
  refine L_y rfl (y_move rfl) rfl ?_
  refine L_y rfl (y_move rfl) rfl ?_
  refine L_op rfl (op_mapUpdateG 0 1 rfl rfl rfl Try.underlying126 Try.underlying58 h.okA rfl rfl ?_)
  refine L_nil ?_
  refine C_seq ?_
  refine C_region ?_
  refine L_y rfl (y_assign rfl) rfl ?_
  refine L_nil ?_
  refine C_ret ?_
  refine B_ret (rv_tmp rfl rv_nil) ((hsub (.cons_cons _ (.refl _))).trans (hsub_pick [0] rfl)) ?_
  have e4 : xput segs size l n a true = (xins (xdel l n) n a, 0) := by simp [xput, h0, ho, hf]
  rw [e4]
  exact ⟨rfl, _, _, h.move hf hb ho hcc, rfl⟩

theorem xput_s {w0 : World} {H : Hp} {o : Xo} {segs size : Int} {l : Xl} {A L : Gm} (h : Xm segs size l A L) (n : Nat) (hn : n < 18446744073709551616) (a : Int) (hl : l.length < 4611686018427387904) : FnS Try.prog w0 29 #[ptr o.b, .int .u64 (n : Int), .int .i64 a] (o.seg 129 segs size A L :: H) (fun e H' => e = .returned (.int .i64 (xput segs size l n a false).2) ∧ ∃ A' L', Xm segs size (xput segs size l n a false).1 A' L' ∧ H' = o.seg 129 segs size A' L' :: H) := by
  by_cases h0 : n = 0
  · exact xput_0 h n hn a hl h0
  · cases ho : ofS segs size a with
    | none => exact xput_r h n hn a hl h0 ho
    | some s =>
      cases hf : xfind l n with
      | some b => exact xput_t h n hn a hl h0 ho hf
      | none => exact xput_y h n hn a hl h0 ho hf

theorem xmove_s {w0 : World} {H : Hp} {o : Xo} {segs size : Int} {l : Xl} {A L : Gm} (h : Xm segs size l A L) (n : Nat) (hn : n < 18446744073709551616) (a : Int) (hl : l.length < 4611686018427387904) : FnS Try.prog w0 42 #[ptr o.b, .int .u64 (n : Int), .int .i64 a] (o.seg 129 segs size A L :: H) (fun e H' => e = .returned (.int .i64 (xput segs size l n a true).2) ∧ ∃ A' L', Xm segs size (xput segs size l n a true).1 A' L' ∧ H' = o.seg 129 segs size A' L' :: H) := by
  by_cases h0 : n = 0
  · exact xmove_0 h n hn a hl h0
  · cases ho : ofS segs size a with
    | none => exact xmove_r h n hn a hl h0 ho
    | some s =>
      cases hf : xfind l n with
      | none => exact xmove_n h n hn a hl h0 ho hf
      | some b => obtain ⟨t, hb⟩ := ofS_some h hf; exact xmove_y h n hn a hl h0 ho hf hb

theorem xdrop_n {w0 : World} {H : Hp} {o : Xo} {segs size : Int} {l : Xl} {A L : Gm} (h : Xm segs size l A L) (n : Nat) (hl : l.length < 4611686018427387904) (hf : xfind l n = none) : FnS Try.prog w0 41 #[ptr o.b, .int .u64 (n : Int)] (o.seg 129 segs size A L :: H) (fun e H' => e = .returned (.int .i64 (xdrop l n).2) ∧ ∃ A' L', Xm segs size (xdrop l n).1 A' L' ∧ H' = o.seg 129 segs size A' L' :: H) := by
  refine FnS_intro (n := 45) (rs := [.tmp 4]) (vs := [ptr o.b, .int .u64 (n : Int)]) Try.func41 rfl Try.ntmps41 rfl rfl ?_
  refine C_seq ?_
  refine C_region ?_
  refine L_y rfl (y_assign rfl) rfl ?_
  refine L_nil ?_
  refine C_seq ?_
  refine C_seq ?_
  refine C_region ?_
  refine L_y rfl (y_move rfl) rfl ?_
  refine L_y rfl (y_eqp rfl rfl Try.underlying55) rfl ?_
  refine L_nil ?_
  refine C_cond_f rfl ?_
  refine C_skip ?_
  refine C_seq ?_
  refine C_region ?_
  refine L_y rfl (y_move rfl) rfl ?_
  refine L_y rfl (y_nilCheck rfl) rfl ?_
  refine L_y rfl (y_fieldAddr rfl fl_129_1) rfl ?_
  refine L_y rfl (y_load rfl ag_126 (sees 0 0 rfl) rfl) rfl ?_
  refine L_y rfl (y_move rfl) rfl ?_
  refine L_y rfl (y_lookupG2 rfl rfl Try.underlying126 Try.underlying58 zt_3 (sees 0 1 rfl)) rfl ?_
  rw [h.get, hf]
  refine L_y rfl (y_move rfl) rfl ?_
  refine L_y rfl (y_extract rfl rfl) rfl ?_
  refine L_y rfl (y_extract rfl rfl) rfl ?_
  refine L_y rfl (y_assign rfl) rfl ?_
  refine L_y rfl (y_assign rfl) rfl ?_
  refine L_nil ?_
  refine C_seq ?_
  refine C_seq ?_
  refine C_region ?_
  refine L_y rfl (y_move rfl) rfl ?_
  refine L_y rfl (y_not rfl) rfl ?_
  refine L_nil ?_
  refine C_cond_t rfl ?_
  refine C_seq ?_
  refine C_region ?_
  refine L_y rfl (y_assign rfl) rfl ?_
  refine L_nil ?_
  refine C_ret ?_
  refine B_ret (rv_tmp rfl rv_nil) ((hsub (.cons_cons _ (.refl _))).trans (hsub_pick [0] rfl)) ?_
  have e4 : xdrop l n = (l, 4) := by simp [xdrop, hf]
  rw [e4]
  exact ⟨rfl, A, L, h, rfl⟩

theorem xdrop_y {w0 : World} {H : Hp} {o : Xo} {segs size : Int} {l : Xl} {A L : Gm} (h : Xm segs size l A L) (n : Nat) (hl : l.length < 4611686018427387904) {b t : Int} (hf : xfind l n = some b) (hb : ofS segs size b = some t) : FnS Try.prog w0 41 #[ptr o.b, .int .u64 (n : Int)] (o.seg 129 segs size A L :: H) (fun e H' => e = .returned (.int .i64 (xdrop l n).2) ∧ ∃ A' L', Xm segs size (xdrop l n).1 A' L' ∧ H' = o.seg 129 segs size A' L' :: H) := by
  have hc2 := cnt_le segs size l t
  have hdc := xdel_cnt (segs := segs) (size := size) h.s hf t
  rw [hb, if_pos rfl] at hdc
  refine FnS_intro (n := 45) (rs := [.tmp 4]) (vs := [ptr o.b, .int .u64 (n : Int)]) Try.func41 rfl Try.ntmps41 rfl rfl ?_
  refine C_seq ?_
  refine C_region ?_
  refine L_y rfl (y_assign rfl) rfl ?_
  refine L_nil ?_
  refine C_seq ?_
  refine C_seq ?_
  refine C_region ?_
  refine L_y rfl (y_move rfl) rfl ?_
  refine L_y rfl (y_eqp rfl rfl Try.underlying55) rfl ?_
  refine L_nil ?_
  refine C_cond_f rfl ?_
  refine C_skip ?_
  refine C_seq ?_
  refine C_region ?_
  refine L_y rfl (y_move rfl) rfl ?_
  refine L_y rfl (y_nilCheck rfl) rfl ?_
  refine L_y rfl (y_fieldAddr rfl fl_129_1) rfl ?_
  refine L_y rfl (y_load rfl ag_126 (sees 0 0 rfl) rfl) rfl ?_
  refine L_y rfl (y_move rfl) rfl ?_
  refine L_y rfl (y_lookupG2 rfl rfl Try.underlying126 Try.underlying58 zt_3 (sees 0 1 rfl)) rfl ?_
  rw [h.get, hf]
  refine L_y rfl (y_move rfl) rfl ?_
  refine L_y rfl (y_extract rfl rfl) rfl ?_
  refine L_y rfl (y_extract rfl rfl) rfl ?_
  refine L_y rfl (y_assign rfl) rfl ?_
  refine L_y rfl (y_assign rfl) rfl ?_
  refine L_nil ?_
  refine C_seq ?_
  refine C_seq ?_
  refine C_region ?_
  refine L_y rfl (y_move rfl) rfl ?_
  refine L_y rfl (y_not rfl) rfl ?_
  refine L_nil ?_
  refine C_cond_f rfl ?_
  refine C_skip ?_
  refine C_seq ?_
  refine C_region ?_
  refine L_y rfl (y_move rfl) rfl ?_
  refine L_y rfl (y_nilCheck rfl) rfl ?_
  refine L_y rfl (y_fieldAddr rfl fl_129_0) rfl ?_
  refine L_y rfl (y_loadA rfl ag_51 sz_51 (sees 0 0 rfl) (Nat.le_of_ble_eq_true rfl) rfl) rfl ?_
  refine L_y rfl (y_move rfl) rfl ?_
  refine L_op rfl (op_call rfl rfl (fun a w => Try.call40 a w) rfl ?_)
  have hz := of_s (w0 := w0) (H := (o.seg 129 segs size A L :: H)) segs size b
  rw [hb] at hz
  try simp only [Option.getD_some, Option.isSome_some, if_true] at hz
  refine hz.mono ?_
  rintro _ _ ⟨rfl, rfl⟩
  refine ⟨_, rfl, ?_⟩
  refine L_y rfl (y_move rfl) rfl ?_
  refine L_y rfl (y_extract rfl rfl) rfl ?_
  refine L_y rfl (y_extract rfl rfl) rfl ?_
  refine L_y rfl (y_extract rfl rfl) rfl ?_
  refine L_y rfl (y_assign rfl) rfl ?_
  refine L_y rfl (y_assign rfl) rfl ?_
  refine L_y rfl (y_assign rfl) rfl ?_
  refine L_nil ?_
  refine C_seq ?_
  refine C_region ?_
  refine L_y rfl (y_move rfl) rfl ?_
  refine L_y rfl (y_nilCheck rfl) rfl ?_
  refine L_y rfl (y_fieldAddr rfl fl_129_2) rfl ?_
  refine L_y rfl (y_load rfl ag_127 (sees 0 0 rfl) rfl) rfl ?_
  refine L_y rfl (y_move rfl) rfl ?_
  refine L_y rfl (y_lookupG rfl rfl Try.underlying127 Try.underlying3 zt_3 (sees 0 2 rfl)) rfl ?_
  rw [h.liv]
  refine L_y rfl (y_sub rfl rfl (wi64 (by omega) (by omega))) rfl ?_
  refine L_op rfl (op_mapUpdateG 0 2 rfl rfl rfl Try.underlying127 Try.underlying3 h.okL rfl rfl ?_)
  refine L_nil ?_
  refine C_seq ?_
  refine C_region ?_
  refine L_y rfl (y_move rfl) rfl ?_
  refine L_y rfl (y_nilCheck rfl) rfl ?_
  refine L_y rfl (y_fieldAddr rfl fl_129_1) rfl ?_
  refine L_y rfl (y_load rfl ag_126 (sees 0 0 rfl) rfl) rfl ?_
  refine L_y rfl (y_move rfl) rfl ?_
  refine L_op rfl (op_deleteG 0 1 rfl rfl rfl Try.underlying126 Try.underlying58 h.okA rfl rfl ?_)
  refine L_nil ?_
  refine C_seq ?_
  refine C_region ?_
  refine L_y rfl (y_assign rfl) rfl ?_
  refine L_nil ?_
  refine C_ret ?_
  refine B_ret (rv_tmp rfl rv_nil) ((hsub (.cons_cons _ (.refl _))).trans (hsub_pick [0] rfl)) ?_
  have e4 : xdrop l n = (xdel l n, 0) := by simp [xdrop, hf]
  rw [e4]
  exact ⟨rfl, _, _, h.drop hf hb, rfl⟩

theorem xdrop_s {w0 : World} {H : Hp} {o : Xo} {segs size : Int} {l : Xl} {A L : Gm} (h : Xm segs size l A L) (n : Nat) (hl : l.length < 4611686018427387904) : FnS Try.prog w0 41 #[ptr o.b, .int .u64 (n : Int)] (o.seg 129 segs size A L :: H) (fun e H' => e = .returned (.int .i64 (xdrop l n).2) ∧ ∃ A' L', Xm segs size (xdrop l n).1 A' L' ∧ H' = o.seg 129 segs size A' L' :: H) := by
  cases hf : xfind l n with
  | none => exact xdrop_n h n hl hf
  | some b => obtain ⟨t, hb⟩ := ofS_some h hf; exact xdrop_y h n hl hf hb

theorem xat_s {w0 : World} {H : Hp} {o : Xo} {segs size : Int} {l : Xl} {A L : Gm} (h : Xm segs size l A L) (n : Nat) : FnS Try.prog w0 37 #[ptr o.b, .int .u64 (n : Int)] (o.seg 129 segs size A L :: H) (fun e H' => e = .returned (.tuple #[.int .i64 ((xfind l n).getD 0), .bool (xfind l n).isSome]) ∧ H' = o.seg 129 segs size A L :: H) := by
  refine FnS_intro (n := 21) (rs := [.tmp 4, .tmp 5]) (vs := [ptr o.b, .int .u64 (n : Int)]) Try.func37 rfl Try.ntmps37 rfl rfl ?_
  refine C_seq ?_
  refine C_region ?_
  refine L_y rfl (y_assign rfl) rfl ?_
  refine L_y rfl (y_assign rfl) rfl ?_
  refine L_nil ?_
  refine C_seq ?_
  refine C_seq ?_
  refine C_region ?_
  refine L_y rfl (y_move rfl) rfl ?_
  refine L_y rfl (y_eqp rfl rfl Try.underlying55) rfl ?_
  refine L_nil ?_
  refine C_cond_f rfl ?_
  refine C_skip ?_
  refine C_seq ?_
  refine C_region ?_
  refine L_y rfl (y_move rfl) rfl ?_
  refine L_y rfl (y_nilCheck rfl) rfl ?_
  refine L_y rfl (y_fieldAddr rfl fl_129_1) rfl ?_
  refine L_y rfl (y_load rfl ag_126 (sees 0 0 rfl) rfl) rfl ?_
  refine L_y rfl (y_move rfl) rfl ?_
  refine L_y rfl (y_lookupG2 rfl rfl Try.underlying126 Try.underlying58 zt_3 (sees 0 1 rfl)) rfl ?_
  refine L_y rfl (y_move rfl) rfl ?_
  refine L_y rfl (y_extract rfl rfl) rfl ?_
  refine L_y rfl (y_extract rfl rfl) rfl ?_
  refine L_y rfl (y_assign rfl) rfl ?_
  refine L_y rfl (y_assign rfl) rfl ?_
  refine L_nil ?_
  refine C_seq ?_
  refine C_region ?_
  refine L_y rfl (y_move rfl) rfl ?_
  refine L_y rfl (y_move rfl) rfl ?_
  refine L_y rfl (y_assign rfl) rfl ?_
  refine L_y rfl (y_assign rfl) rfl ?_
  refine L_nil ?_
  refine C_ret ?_
  refine B_ret (rv_tmp rfl (rv_tmp rfl rv_nil)) ((hsub (.cons_cons _ (.refl _))).trans (hsub_pick [0] rfl)) ?_
  refine ⟨?_, rfl⟩
  rw [h.get]
  cases xfind l n <;> rfl

theorem xlen_s {w0 : World} {H : Hp} {o : Xo} {segs size : Int} {l : Xl} {A L : Gm} (h : Xm segs size l A L) : FnS Try.prog w0 32 #[ptr o.b] (o.seg 129 segs size A L :: H) (fun e H' => e = .returned (.int .i64 (l.length : Int)) ∧ H' = o.seg 129 segs size A L :: H) := by
  refine FnS_intro (n := 10) (rs := [.tmp 2]) (vs := [ptr o.b]) Try.func32 rfl Try.ntmps32 rfl rfl ?_
  refine C_seq ?_
  refine C_region ?_
  refine L_y rfl (y_assign rfl) rfl ?_
  refine L_nil ?_
  refine C_seq ?_
  refine C_seq ?_
  refine C_region ?_
  refine L_y rfl (y_move rfl) rfl ?_
  refine L_y rfl (y_eqp rfl rfl Try.underlying55) rfl ?_
  refine L_nil ?_
  refine C_cond_f rfl ?_
  refine C_skip ?_
  refine C_seq ?_
  refine C_region ?_
  refine L_y rfl (y_move rfl) rfl ?_
  refine L_y rfl (y_nilCheck rfl) rfl ?_
  refine L_y rfl (y_fieldAddr rfl fl_129_1) rfl ?_
  refine L_y rfl (y_load rfl ag_126 (sees 0 0 rfl) rfl) rfl ?_
  refine L_y rfl (y_lenG rfl rfl Try.underlying126 (sees 0 1 rfl)) rfl ?_
  refine L_y rfl (y_assign rfl) rfl ?_
  refine L_nil ?_
  refine C_ret ?_
  refine B_ret (rv_tmp rfl rv_nil) ((hsub (.cons_cons _ (.refl _))).trans (hsub_pick [0] rfl)) ?_
  exact ⟨by rw [h.len]; rfl, rfl⟩

theorem xlive_s {w0 : World} {H : Hp} {o : Xo} {segs size : Int} {l : Xl} {A L : Gm} (h : Xm segs size l A L) (s : Int) : FnS Try.prog w0 36 #[ptr o.b, .int .i64 s] (o.seg 129 segs size A L :: H) (fun e H' => e = .returned (.int .i64 (cnt18 segs size l s : Int)) ∧ H' = o.seg 129 segs size A L :: H) := by
  refine FnS_intro (n := 13) (rs := [.tmp 4]) (vs := [ptr o.b, .int .i64 s]) Try.func36 rfl Try.ntmps36 rfl rfl ?_
  refine C_seq ?_
  refine C_region ?_
  refine L_y rfl (y_assign rfl) rfl ?_
  refine L_nil ?_
  refine C_seq ?_
  refine C_seq ?_
  refine C_region ?_
  refine L_y rfl (y_move rfl) rfl ?_
  refine L_y rfl (y_eqp rfl rfl Try.underlying55) rfl ?_
  refine L_nil ?_
  refine C_cond_f rfl ?_
  refine C_skip ?_
  refine C_seq ?_
  refine C_region ?_
  refine L_y rfl (y_move rfl) rfl ?_
  refine L_y rfl (y_nilCheck rfl) rfl ?_
  refine L_y rfl (y_fieldAddr rfl fl_129_2) rfl ?_
  refine L_y rfl (y_load rfl ag_127 (sees 0 0 rfl) rfl) rfl ?_
  refine L_y rfl (y_move rfl) rfl ?_
  refine L_y rfl (y_lookupG rfl rfl Try.underlying127 Try.underlying3 zt_3 (sees 0 2 rfl)) rfl ?_
  refine L_y rfl (y_assign rfl) rfl ?_
  refine L_nil ?_
  refine C_ret ?_
  refine B_ret (rv_tmp rfl rv_nil) ((hsub (.cons_cons _ (.refl _))).trans (hsub_pick [0] rfl)) ?_
  exact ⟨by rw [h.liv]; rfl, rfl⟩

end Go.Proofs.Ytaeooiogjhkjfaa

/- Facts of the translation's types, for the kernel (own work, by a program of this repo). -/
namespace Go.Proofs.Ytaeooiogjhkjfaa
open Go.Sl
theorem ag_169 : isAggT Try.prog 169 = some false := by kernel_rfl
theorem sz_169 : szT Try.prog 169 = some 1 := by kernel_rfl
theorem us_152 : (Try.prog.underlying 152).isSome = true := by kernel_rfl
theorem us_3 : (Try.prog.underlying 3).isSome = true := by kernel_rfl
theorem zl_169 : zeroL Try.prog 169 = some ([.int .u64 0]) := by kernel_rfl
theorem zl_3 : zeroL Try.prog 3 = some ([.int .i64 0]) := by kernel_rfl
end Go.Proofs.Ytaeooiogjhkjfaa

/- Facts of the translation's types, for the kernel (own work, by a program of this repo). -/
namespace Go.Proofs.Ytaeooiogjhkjfaa
open Go.Sl
theorem us_58 : (Try.prog.underlying 58).isSome = true := by kernel_rfl
end Go.Proofs.Ytaeooiogjhkjfaa

/- walks (own work; the walks' lines by a program of this repo). -/
set_option linter.unusedVariables false
set_option linter.unusedSimpArgs false
set_option maxRecDepth 20000
namespace Go.Proofs.Ytaeooiogjhkjfaa
open Go.Sl
attribute [local irreducible] BodyQ WpC WpL WpS WpH OpW FnS


theorem isnan_u {w0 : World} {H : Hp} (x : Int) : FnS Try.prog w0 118 #[.int .u64 x] H (fun e H' => e = .returned (.bool false) ∧ H' = H) := by
  refine FnS_intro (n := 6) (rs := [.tmp 2]) (vs := [.int .u64 x]) Try.func118 rfl Try.ntmps118 rfl rfl ?_
  refine C_seq ?_
  refine C_region ?_
  refine L_y rfl (y_assign rfl) rfl ?_
  refine L_nil ?_
  refine C_seq ?_
  refine C_region ?_
  refine L_y rfl (y_move rfl) rfl ?_
  refine L_y rfl (y_move rfl) rfl ?_
  refine L_y rfl (y_nei rfl rfl) rfl ?_
  refine L_y rfl (y_assign rfl) rfl ?_
  refine L_nil ?_
  refine C_ret ?_
  refine B_ret (rv_tmp rfl rv_nil) (HSub.refl _) ?_
  refine ⟨congrArg (fun b => Ending.returned (.bool b)) ?_, rfl⟩
  simp

theorem less_u {w0 : World} {H : Hp} (x y : Nat) : FnS Try.prog w0 108 #[.int .u64 (x : Int), .int .u64 (y : Int)] H (fun e H' => e = .returned (.bool (ltN x y)) ∧ H' = H) := by
  refine FnS_intro (n := 17) (rs := [.tmp 4]) (vs := [.int .u64 (x : Int), .int .u64 (y : Int)]) Try.func108 rfl Try.ntmps108 rfl rfl ?_
  refine C_seq ?_
  refine C_region ?_
  refine L_y rfl (y_assign rfl) rfl ?_
  refine L_nil ?_
  refine C_seq ?_
  refine C_region ?_
  refine L_y rfl (y_move rfl) rfl ?_
  refine L_op rfl (op_call rfl rfl (fun a w => Try.call118 a w) rfl ?_)
  refine (isnan_u _).mono ?_
  rintro _ _ ⟨rfl, e⟩
  obtain rfl := e.symm
  clear e
  refine ⟨_, rfl, ?_⟩
  refine L_y rfl (y_move rfl) rfl ?_
  refine L_skip rfl rfl ?_
  refine L_skip rfl rfl ?_
  refine L_skip rfl rfl ?_
  refine L_y rfl (y_pick_f rfl rfl) rfl ?_
  refine L_y rfl (y_move rfl) rfl ?_
  refine L_y rfl (y_move rfl) rfl ?_
  refine L_y rfl (y_move rfl) rfl ?_
  refine L_y rfl (y_lss rfl rfl) rfl ?_
  refine L_y rfl (y_pick_f rfl rfl) rfl ?_
  refine L_y rfl (y_assign rfl) rfl ?_
  refine L_nil ?_
  refine C_ret ?_
  refine B_ret (rv_tmp rfl rv_nil) (HSub.refl _) ?_
  refine ⟨congrArg (fun b => Ending.returned (.bool b)) ?_, rfl⟩
  simp [ltN]

theorem insert_u {w0 : World} {H : Hp} {sb n cap : Nat} {sp : List Value} (d : Array Nat) (hd : d.size = n) (hn : n < 4611686018427387904) (a b : Nat) (hab : a ≤ b) (hb : b ≤ n) : FnS Try.prog w0 102 #[(.slice (some ⟨sb, 0, none⟩) n cap), .int .i64 (a : Int), .int .i64 (b : Int)] (useg 58 sb d sp :: H) (fun e H' => e = .returned (.tuple #[]) ∧ H' = useg 58 sb (Go.Sort.insertionSort ltN d a b) sp :: H) := by
  refine FnS_intro (n := 49) (rs := []) (vs := [(.slice (some ⟨sb, 0, none⟩) n cap), .int .i64 (a : Int), .int .i64 (b : Int)]) Try.func102 rfl Try.ntmps102 rfl rfl ?_
  refine C_seq ?_
  refine C_region ?_
  refine L_y rfl (y_move rfl) rfl ?_
  refine L_y rfl (y_add rfl rfl (show _ = ((a + 1 : Nat) : Int) from by rw [wi64 (by omega) (by omega)]; omega)) rfl ?_
  refine L_y rfl (y_assign rfl) rfl ?_
  refine L_nil ?_
  refine C_block ?_
  refine C_loop (ι := Array Nat × Nat) (fun i => [(0, (.slice (some ⟨sb, 0, none⟩) n cap)), (1, .int .i64 (a : Int)), (2, .int .i64 (b : Int)), (6, .int .i64 (i.2 : Int))]) (fun i => useg 58 sb i.1 sp :: H) (fun i => i.1.size = n ∧ a < i.2 ∧ i.2 ≤ n + 1 ∧ Go.Sort.insOuter ltN a b i.2 i.1 = Go.Sort.insertionSort ltN d a b) (fun i => b - i.2) (d, a + 1) ⟨hd, Nat.lt_succ_self _, by simp only; omega, rfl⟩ ⟨rfl, rfl, rfl, rfl, trivial⟩ ((hsub (.cons_cons _ (.refl _))).trans (hsub_pick [0] rfl)) (fun i hi => ?_)
  obtain ⟨d1, i⟩ := i
  obtain ⟨hs1, hai, hin, hr1⟩ := hi
  try simp only at hs1 hai hin hr1
  try dsimp only
  refine C_seq ?_
  refine C_seq ?_
  refine C_region ?_
  refine L_y rfl (y_move rfl) rfl ?_
  refine L_y rfl (y_move rfl) rfl ?_
  refine L_y rfl (y_lss rfl rfl) rfl ?_
  refine L_nil ?_
  refine C_cond rfl (fun hc0 => ?_) (fun hc0 => ?_)
  · replace hc0 : i < b := by have := of_decide_eq_true hc0; omega
    refine C_skip ?_
    refine C_seq ?_
    refine C_block ?_
    refine C_seq ?_
    refine C_region ?_
    refine L_y rfl (y_move rfl) rfl ?_
    refine L_y rfl (y_assign rfl) rfl ?_
    refine L_nil ?_
    refine C_block ?_
    refine C_loop (ι := Array Nat × Nat) (fun j => [(0, (.slice (some ⟨sb, 0, none⟩) n cap)), (1, .int .i64 (a : Int)), (2, .int .i64 (b : Int)), (6, .int .i64 (i : Int)), (7, .int .i64 (j.2 : Int))]) (fun j => useg 58 sb j.1 sp :: H) (fun j => j.1.size = n ∧ a ≤ j.2 ∧ j.2 ≤ i ∧ Go.Sort.insInner ltN a j.2 j.1 = Go.Sort.insInner ltN a i d1) (fun j => j.2) (d1, i) ⟨hs1, by simp only; omega, Nat.le_refl _, rfl⟩ ⟨rfl, rfl, rfl, rfl, rfl, trivial⟩ ((hsub (.cons_cons _ (.refl _))).trans (hsub_pick [0] rfl)) (fun j hj => ?_)
    obtain ⟨d2, j⟩ := j
    obtain ⟨hs2, haj, hji, hr2⟩ := hj
    try simp only at hs2 haj hji hr2
    try dsimp only
    refine C_seq ?_
    refine C_seq ?_
    refine C_regionH0 (by kernel_rfl) ?_
    refine H_y 0 rfl (by kernel_rfl) (by kernel_rfl) (by kernel_rfl) (HSub.refl _) rfl (y_move rfl) rfl ?_
    refine H_y 1 rfl (by kernel_rfl) (by kernel_rfl) (by kernel_rfl) (HSub.refl _) rfl (y_move rfl) rfl ?_
    refine H_y 2 rfl (by kernel_rfl) (by kernel_rfl) (by kernel_rfl) (HSub.refl _) rfl (y_gtr rfl rfl) rfl ?_
    refine H_y 3 rfl (by kernel_rfl) (by kernel_rfl) (by kernel_rfl) (HSub.refl _) rfl (y_move rfl) rfl ?_
    refine H_case 19 rfl (fun hg4_4 => ?_) (fun hg4_4 => ?_)
    · have hja : a < j := by have := of_decide_eq_true hg4_4; omega
      refine H_y 4 rfl (by kernel_rfl) (by kernel_rfl) (by kernel_rfl) (HSub.refl _) rfl (y_move rfl) rfl ?_
      refine H_y 5 rfl (by kernel_rfl) (by kernel_rfl) (by kernel_rfl) (HSub.refl _) rfl (y_move rfl) rfl ?_
      refine H_y 6 rfl (by kernel_rfl) (by kernel_rfl) (by kernel_rfl) (HSub.refl _) rfl (y_indexS rfl rfl Try.underlying63 sz_58 (by omega) (by omega) (show _ = j from by simp)) rfl ?_
      refine H_y 7 rfl (by kernel_rfl) (by kernel_rfl) (by kernel_rfl) (HSub.refl _) rfl (y_load rfl ag_58 (sees 0 0 rfl) (us_at (by omega))) rfl ?_
      refine H_y 8 rfl (by kernel_rfl) (by kernel_rfl) (by kernel_rfl) (HSub.refl _) rfl (y_move rfl) rfl ?_
      refine H_y 9 rfl (by kernel_rfl) (by kernel_rfl) (by kernel_rfl) (HSub.refl _) rfl (y_move rfl) rfl ?_
      refine H_y 10 rfl (by kernel_rfl) (by kernel_rfl) (by kernel_rfl) (HSub.refl _) rfl (y_sub rfl rfl (show _ = ((j - 1 : Nat) : Int) from by rw [wi64 (by omega) (by omega)]; omega)) rfl ?_
      refine H_y 11 rfl (by kernel_rfl) (by kernel_rfl) (by kernel_rfl) (HSub.refl _) rfl (y_indexS rfl rfl Try.underlying63 sz_58 (by omega) (by omega) (show _ = j - 1 from by simp)) rfl ?_
      refine H_y 12 rfl (by kernel_rfl) (by kernel_rfl) (by kernel_rfl) (HSub.refl _) rfl (y_load rfl ag_58 (sees 0 0 rfl) (us_at (by omega))) rfl ?_
      refine H_one 13 rfl (by kernel_rfl) rfl (op_call rfl rfl (fun a w => Try.call108 a w) rfl ?_)
      refine (less_u (d2[j]!) (d2[j - 1]!)).mono ?_
      rintro _ _ ⟨rfl, e⟩
      obtain rfl := e.symm
      clear e
      refine ⟨_, rfl, ?_⟩
      refine ⟨HSub.refl _, ?_⟩
      refine H_y 14 rfl (by kernel_rfl) (by kernel_rfl) (by kernel_rfl) (HSub.refl _) rfl (y_pick_t rfl rfl) rfl ?_
      refine H_done (by kernel_rfl) ?_
      refine C_cond rfl (fun hc1 => ?_) (fun hc1 => ?_)
      · have hlt : ltN d2[j]! d2[j - 1]! = true := hc1
        refine C_skip ?_
        refine C_seq ?_
        refine C_block ?_
        refine C_regionH H (by kernel_rfl) ?_
        refine H_y 0 rfl (by kernel_rfl) (by kernel_rfl) (by kernel_rfl) ((hsub (.cons _ (.refl _)))) rfl (y_move rfl) rfl ?_
        refine H_y 1 rfl (by kernel_rfl) (by kernel_rfl) (by kernel_rfl) ((hsub (.cons _ (.refl _)))) rfl (y_move rfl) rfl ?_
        refine H_y 2 rfl (by kernel_rfl) (by kernel_rfl) (by kernel_rfl) ((hsub (.cons _ (.refl _)))) rfl (y_move rfl) rfl ?_
        refine H_y 3 rfl (by kernel_rfl) (by kernel_rfl) (by kernel_rfl) ((hsub (.cons _ (.refl _)))) rfl (y_move rfl) rfl ?_
        refine H_y 4 rfl (by kernel_rfl) (by kernel_rfl) (by kernel_rfl) ((hsub (.cons _ (.refl _)))) rfl (y_sub rfl rfl (show _ = ((j - 1 : Nat) : Int) from by rw [wi64 (by omega) (by omega)]; omega)) rfl ?_
        refine H_y 5 rfl (by kernel_rfl) (by kernel_rfl) (by kernel_rfl) ((hsub (.cons _ (.refl _)))) rfl (y_move rfl) rfl ?_
        refine H_y 6 rfl (by kernel_rfl) (by kernel_rfl) (by kernel_rfl) ((hsub (.cons _ (.refl _)))) rfl (y_move rfl) rfl ?_
        refine H_y 7 rfl (by kernel_rfl) (by kernel_rfl) (by kernel_rfl) ((hsub (.cons _ (.refl _)))) rfl (y_sub rfl rfl (show _ = ((j - 1 : Nat) : Int) from by rw [wi64 (by omega) (by omega)]; omega)) rfl ?_
        refine H_y 8 rfl (by kernel_rfl) (by kernel_rfl) (by kernel_rfl) ((hsub (.cons _ (.refl _)))) rfl (y_indexS rfl rfl Try.underlying63 sz_58 (by omega) (by omega) (show _ = j - 1 from by simp)) rfl ?_
        refine H_y 10 rfl (by kernel_rfl) (by kernel_rfl) (by kernel_rfl) ((hsub (.cons _ (.refl _)))) rfl (y_move rfl) rfl ?_
        refine H_y 11 rfl (by kernel_rfl) (by kernel_rfl) (by kernel_rfl) ((hsub (.cons _ (.refl _)))) rfl (y_move rfl) rfl ?_
        refine H_y 12 rfl (by kernel_rfl) (by kernel_rfl) (by kernel_rfl) ((hsub (.cons _ (.refl _)))) rfl (y_indexS rfl rfl Try.underlying63 sz_58 (by omega) (by omega) (show _ = j from by simp)) rfl ?_
        refine H_two 9 13 rfl rfl (by kernel_rfl) rfl rfl ?_ ?_
        · refine op_y (y_load rfl ag_58 (sees 0 0 rfl) (us_at (by omega))) rfl ?_
          refine ⟨(hsub (.cons _ (.refl _))), ?_⟩
          refine H_one 13 rfl (by kernel_rfl) rfl (op_y (y_load rfl ag_58 (sees 0 0 rfl) (us_at (by omega))) rfl ?_)
          refine ⟨(hsub (.cons _ (.refl _))), ?_⟩
          refine H_y 14 rfl (by kernel_rfl) (by kernel_rfl) (by kernel_rfl) ((hsub (.cons _ (.refl _)))) rfl (y_indexS rfl rfl Try.underlying63 sz_58 (by omega) (by omega) (show _ = j from by simp)) rfl ?_
          refine H_one 15 rfl (by kernel_rfl) rfl (op_store1 0 0 rfl rfl rfl sz_58 rfl (us_lt (by omega)) ?_)
          refine ⟨(hsub (.cons _ (.refl _))), ?_⟩
          refine H_y 16 rfl (by kernel_rfl) (by kernel_rfl) (by kernel_rfl) ((hsub (.cons _ (.refl _)))) rfl (y_indexS rfl rfl Try.underlying63 sz_58 (by omega) (by omega) (show _ = j - 1 from by simp)) rfl ?_
          refine H_one 17 rfl (by kernel_rfl) rfl (op_store1 0 0 rfl rfl rfl sz_58 rfl (by rw [List.length_set]; exact us_lt (by omega)) ?_)
          refine ⟨(hsub (.cons _ (.refl _))), ?_⟩
          refine H_done (by kernel_rfl) ?_
          rw [us_swp (by omega) (by omega)]
          refine C_region ?_
          refine L_y rfl (y_move rfl) rfl ?_
          refine L_y rfl (y_sub rfl rfl (show _ = ((j - 1 : Nat) : Int) from by rw [wi64 (by omega) (by omega)]; omega)) rfl ?_
          refine L_y rfl (y_assign rfl) rfl ?_
          refine L_nil ?_
          refine ⟨(Go.Sort.swp d2 j (j - 1), j - 1), ⟨by simp only; rw [swp_size]; exact hs2, by simp only; omega, by simp only; omega, by simp only; rw [← hr2, ins_step hja hlt]⟩, by simp only; omega, ⟨rfl, rfl, rfl, rfl, rfl, trivial⟩, ((hsub (.cons_cons _ (.refl _))).trans (hsub_pick [0] rfl))⟩
        · refine op_y (y_load rfl ag_58 (sees 0 0 rfl) (us_at (by omega))) rfl ?_
          refine ⟨(hsub (.cons _ (.refl _))), ?_⟩
          refine H_one 9 rfl (by kernel_rfl) rfl (op_y (y_load rfl ag_58 (sees 0 0 rfl) (us_at (by omega))) rfl ?_)
          refine ⟨(hsub (.cons _ (.refl _))), ?_⟩
          refine H_y 14 rfl (by kernel_rfl) (by kernel_rfl) (by kernel_rfl) ((hsub (.cons _ (.refl _)))) rfl (y_indexS rfl rfl Try.underlying63 sz_58 (by omega) (by omega) (show _ = j from by simp)) rfl ?_
          refine H_one 15 rfl (by kernel_rfl) rfl (op_store1 0 0 rfl rfl rfl sz_58 rfl (us_lt (by omega)) ?_)
          refine ⟨(hsub (.cons _ (.refl _))), ?_⟩
          refine H_y 16 rfl (by kernel_rfl) (by kernel_rfl) (by kernel_rfl) ((hsub (.cons _ (.refl _)))) rfl (y_indexS rfl rfl Try.underlying63 sz_58 (by omega) (by omega) (show _ = j - 1 from by simp)) rfl ?_
          refine H_one 17 rfl (by kernel_rfl) rfl (op_store1 0 0 rfl rfl rfl sz_58 rfl (by rw [List.length_set]; exact us_lt (by omega)) ?_)
          refine ⟨(hsub (.cons _ (.refl _))), ?_⟩
          refine H_done (by kernel_rfl) ?_
          rw [us_swp (by omega) (by omega)]
          refine C_region ?_
          refine L_y rfl (y_move rfl) rfl ?_
          refine L_y rfl (y_sub rfl rfl (show _ = ((j - 1 : Nat) : Int) from by rw [wi64 (by omega) (by omega)]; omega)) rfl ?_
          refine L_y rfl (y_assign rfl) rfl ?_
          refine L_nil ?_
          refine ⟨(Go.Sort.swp d2 j (j - 1), j - 1), ⟨by simp only; rw [swp_size]; exact hs2, by simp only; omega, by simp only; omega, by simp only; rw [← hr2, ins_step hja hlt]⟩, by simp only; omega, ⟨rfl, rfl, rfl, rfl, rfl, trivial⟩, ((hsub (.cons_cons _ (.refl _))).trans (hsub_pick [0] rfl))⟩
      · have hfin : Go.Sort.insInner ltN a i d1 = d2 := by rw [← hr2]; exact ins_stop (.inr hc1)
        refine C_exit ?_
        refine C_region ?_
        refine L_y rfl (y_move rfl) rfl ?_
        refine L_y rfl (y_add rfl rfl (show _ = ((i + 1 : Nat) : Int) from by rw [wi64 (by omega) (by omega)]; omega)) rfl ?_
        refine L_y rfl (y_assign rfl) rfl ?_
        refine L_nil ?_
        exact ⟨(d2, i + 1), ⟨hs2, by simp only; omega, by simp only; omega, by rw [← hr1, ins_next hc0, hfin]⟩, by simp only; omega, ⟨rfl, rfl, rfl, rfl, trivial⟩, ((hsub (.cons_cons _ (.refl _))).trans (hsub_pick [0] rfl))⟩
    · have hja : ¬ a < j := by have := of_decide_eq_false hg4_4; omega
      have hfin : Go.Sort.insInner ltN a i d1 = d2 := by rw [← hr2]; exact ins_stop (.inl hja)
      refine H_skip 4 rfl (by kernel_rfl) (by kernel_rfl) (by kernel_rfl) (HSub.refl _) rfl rfl ?_
      refine H_skip 5 rfl (by kernel_rfl) (by kernel_rfl) (by kernel_rfl) (HSub.refl _) rfl rfl ?_
      refine H_skip 6 rfl (by kernel_rfl) (by kernel_rfl) (by kernel_rfl) (HSub.refl _) rfl rfl ?_
      refine H_skip 7 rfl (by kernel_rfl) (by kernel_rfl) (by kernel_rfl) (HSub.refl _) rfl rfl ?_
      refine H_skip 8 rfl (by kernel_rfl) (by kernel_rfl) (by kernel_rfl) (HSub.refl _) rfl rfl ?_
      refine H_skip 9 rfl (by kernel_rfl) (by kernel_rfl) (by kernel_rfl) (HSub.refl _) rfl rfl ?_
      refine H_skip 10 rfl (by kernel_rfl) (by kernel_rfl) (by kernel_rfl) (HSub.refl _) rfl rfl ?_
      refine H_skip 11 rfl (by kernel_rfl) (by kernel_rfl) (by kernel_rfl) (HSub.refl _) rfl rfl ?_
      refine H_skip 12 rfl (by kernel_rfl) (by kernel_rfl) (by kernel_rfl) (HSub.refl _) rfl rfl ?_
      refine H_skip 13 rfl (by kernel_rfl) (by kernel_rfl) (by kernel_rfl) (HSub.refl _) rfl rfl ?_
      refine H_y 14 rfl (by kernel_rfl) (by kernel_rfl) (by kernel_rfl) (HSub.refl _) rfl (y_pick_f rfl rfl) rfl ?_
      refine H_done (by kernel_rfl) ?_
      refine C_cond_f rfl ?_
      refine C_exit ?_
      refine C_region ?_
      refine L_y rfl (y_move rfl) rfl ?_
      refine L_y rfl (y_add rfl rfl (show _ = ((i + 1 : Nat) : Int) from by rw [wi64 (by omega) (by omega)]; omega)) rfl ?_
      refine L_y rfl (y_assign rfl) rfl ?_
      refine L_nil ?_
      exact ⟨(d2, i + 1), ⟨hs2, by simp only; omega, by simp only; omega, by rw [← hr1, ins_next hc0, hfin]⟩, by simp only; omega, ⟨rfl, rfl, rfl, rfl, trivial⟩, ((hsub (.cons_cons _ (.refl _))).trans (hsub_pick [0] rfl))⟩
  · replace hc0 : ¬ i < b := by have := of_decide_eq_false hc0; omega
    refine C_exit ?_
    refine B_end rv_nil ((hsub (.cons_cons _ (.refl _))).trans (hsub_pick [0] rfl)) ?_
    refine ⟨rfl, ?_⟩
    rw [← hr1, ins_over hc0]
    rfl

end Go.Proofs.Ytaeooiogjhkjfaa

/- The rest of slices.Sort, as the code has it: each round of each loop (own work). -/
set_option linter.unusedVariables false
set_option linter.unusedSimpArgs false
namespace Go.Sl
open Go.Sort (swp)
theorem ix0 (x : Nat) : 0 + ((x : Nat) : Int).toNat * 1 = x := by simp
section
variable {hi first root : Nat} {d : Array Nat}
theorem sd_stop (h : hi ≤ 2 * root + 1) : Go.Sort.siftDown ltN hi first root d = d := by rw [Go.Sort.siftDown, dif_pos h]
theorem sd_2 (h : 2 * root + 2 < hi) (hl : ltN d[first + (2 * root + 1)]! d[first + (2 * root + 2)]! = true) (hg : ltN d[first + root]! d[first + (2 * root + 2)]! = true) :
    Go.Sort.siftDown ltN hi first root d = Go.Sort.siftDown ltN hi first (2 * root + 2) (swp d (first + root) (first + (2 * root + 2))) := by
  have hl' : ltN d[first + (2 * root + 1)]! d[first + (2 * root + 1) + 1]! = true := hl
  rw [Go.Sort.siftDown, dif_neg (by omega), if_pos (by rw [hl', decide_eq_true (by omega : 2 * root + 1 + 1 < hi)]; rfl), if_neg (by rw [hg]; decide), dif_pos h]
theorem sd_2s (h : 2 * root + 2 < hi) (hl : ltN d[first + (2 * root + 1)]! d[first + (2 * root + 2)]! = true) (hg : ltN d[first + root]! d[first + (2 * root + 2)]! = false) :
    Go.Sort.siftDown ltN hi first root d = d := by
  have hl' : ltN d[first + (2 * root + 1)]! d[first + (2 * root + 1) + 1]! = true := hl
  rw [Go.Sort.siftDown, dif_neg (by omega), if_pos (by rw [hl', decide_eq_true (by omega : 2 * root + 1 + 1 < hi)]; rfl), if_pos (by rw [hg]; rfl)]
theorem sd_1 (h : 2 * root + 1 < hi) (hn : ¬ 2 * root + 2 < hi ∨ ltN d[first + (2 * root + 1)]! d[first + (2 * root + 2)]! = false) (hg : ltN d[first + root]! d[first + (2 * root + 1)]! = true) :
    Go.Sort.siftDown ltN hi first root d = Go.Sort.siftDown ltN hi first (2 * root + 1) (swp d (first + root) (first + (2 * root + 1))) := by
  have hc : ¬ ((decide (2 * root + 1 + 1 < hi) && ltN d[first + (2 * root + 1)]! d[first + (2 * root + 1) + 1]!) = true) := by
    rcases hn with hn | hn
    · rw [decide_eq_false (by omega : ¬ 2 * root + 1 + 1 < hi)]; simp
    · have hn' : ltN d[first + (2 * root + 1)]! d[first + (2 * root + 1) + 1]! = false := hn
      rw [hn']; simp
  rw [Go.Sort.siftDown, dif_neg (by omega), if_neg hc, if_neg (by rw [hg]; decide)]
theorem sd_1s (h : 2 * root + 1 < hi) (hn : ¬ 2 * root + 2 < hi ∨ ltN d[first + (2 * root + 1)]! d[first + (2 * root + 2)]! = false) (hg : ltN d[first + root]! d[first + (2 * root + 1)]! = false) :
    Go.Sort.siftDown ltN hi first root d = d := by
  have hc : ¬ ((decide (2 * root + 1 + 1 < hi) && ltN d[first + (2 * root + 1)]! d[first + (2 * root + 1) + 1]!) = true) := by
    rcases hn with hn | hn
    · rw [decide_eq_false (by omega : ¬ 2 * root + 1 + 1 < hi)]; simp
    · have hn' : ltN d[first + (2 * root + 1)]! d[first + (2 * root + 1) + 1]! = false := hn
      rw [hn']; simp
  rw [Go.Sort.siftDown, dif_neg (by omega), if_neg hc, if_pos (by rw [hg]; rfl)]
end
theorem sd_size (hi first : Nat) : ∀ (m root : Nat) (d : Array Nat), hi - root ≤ m → (Go.Sort.siftDown ltN hi first root d).size = d.size := by
  intro m
  induction m with
  | zero => intro root d h; rw [sd_stop (by omega)]
  | succ m ih =>
    intro root d h
    rw [Go.Sort.siftDown]
    split
    · rfl
    · split
      · split
        · rfl
        · split
          · rw [ih _ _ (by omega), swp_size]
          · rfl
      · split
        · rfl
        · rw [ih _ _ (by omega), swp_size]
section
variable {a b i j i2 j2 n : Nat} {d d2 : Array Nat} {p : Nat → Bool}
theorem su_go (h : i ≤ j) (hp : p d[i]! = true) : Go.Sort.scanUp p d j i = Go.Sort.scanUp p d j (i + 1) := by rw [Go.Sort.scanUp, if_pos (by rw [hp, decide_eq_true h]; rfl)]
theorem su_stop (h : ¬ i ≤ j ∨ p d[i]! = false) : Go.Sort.scanUp p d j i = i := by
  rw [Go.Sort.scanUp, if_neg]
  rcases h with h | h
  · rw [decide_eq_false h]; simp
  · rw [h]; simp
theorem sn_go (h : i ≤ j) (hi : 1 ≤ i) (hp : p d[j]! = true) : Go.Sort.scanDown p d i j = Go.Sort.scanDown p d i (j - 1) := by
  cases j with
  | zero => omega
  | succ j => rw [Go.Sort.scanDown, if_pos (by rw [hp, decide_eq_true h]; rfl)]; rfl
theorem sn_stop (h : ¬ i ≤ j ∨ p d[j]! = false) : Go.Sort.scanDown p d i j = j := by
  cases j with
  | zero => rfl
  | succ j =>
    rw [Go.Sort.scanDown, if_neg]
    rcases h with h | h
    · rw [decide_eq_false h]; simp
    · rw [h]; simp
abbrev upP (a : Nat) (d : Array Nat) : Nat → Bool := fun x => ltN x d[a]!
abbrev dnP (a : Nat) (d : Array Nat) : Nat → Bool := fun x => !ltN x d[a]!
abbrev upE (a : Nat) (d : Array Nat) : Nat → Bool := fun x => !ltN d[a]! x
abbrev dnE (a : Nat) (d : Array Nat) : Nat → Bool := fun x => ltN d[a]! x
theorem pl_stop (h1 : Go.Sort.scanUp (upP a d) d j i = i2) (h2 : Go.Sort.scanDown (dnP a d) d i2 j = j2) (h : j2 < i2) : Go.Sort.partLoop ltN a i j d = (j2, d) := by
  rw [Go.Sort.partLoop_eq, h1, h2, if_pos h]
theorem pl_go (h1 : Go.Sort.scanUp (upP a d) d j i = i2) (h2 : Go.Sort.scanDown (dnP a d) d i2 j = j2) (h : ¬ j2 < i2) : Go.Sort.partLoop ltN a i j d = Go.Sort.partLoop ltN a (i2 + 1) (j2 - 1) (swp d i2 j2) := by
  rw [Go.Sort.partLoop_eq, h1, h2, if_neg h]
theorem pe_stop (h1 : Go.Sort.scanUp (upE a d) d j i = i2) (h2 : Go.Sort.scanDown (dnE a d) d i2 j = j2) (h : j2 < i2) : Go.Sort.partEqLoop ltN a i j d = (i2, d) := by
  rw [Go.Sort.partEqLoop_eq, h1, h2, if_pos h]
theorem pe_go (h1 : Go.Sort.scanUp (upE a d) d j i = i2) (h2 : Go.Sort.scanDown (dnE a d) d i2 j = j2) (h : ¬ j2 < i2) : Go.Sort.partEqLoop ltN a i j d = Go.Sort.partEqLoop ltN a (i2 + 1) (j2 - 1) (swp d i2 j2) := by
  rw [Go.Sort.partEqLoop_eq, h1, h2, if_neg h]
variable {d1 : Array Nat} {pivot : Nat}
theorem pt_t (hd1 : d1 = swp d a pivot) (h1 : Go.Sort.scanUp (upP a d1) d1 (b - 1) (a + 1) = i) (h2 : Go.Sort.scanDown (dnP a d1) d1 i (b - 1) = j) (h : j < i) : Go.Sort.partition ltN d a b pivot = (j, true, swp d1 j a) := by
  subst hd1
  unfold Go.Sort.partition
  simp only
  rw [h1, h2, if_pos h]
theorem pt_f (hd1 : d1 = swp d a pivot) (h1 : Go.Sort.scanUp (upP a d1) d1 (b - 1) (a + 1) = i) (h2 : Go.Sort.scanDown (dnP a d1) d1 i (b - 1) = j) (h : ¬ j < i) (hl : Go.Sort.partLoop ltN a (i + 1) (j - 1) (swp d1 i j) = (j2, d2)) : Go.Sort.partition ltN d a b pivot = (j2, false, swp d2 j2 a) := by
  subst hd1
  unfold Go.Sort.partition
  simp only
  rw [h1, h2, if_neg h, hl]
theorem pq_eq (hd1 : d1 = swp d a pivot) : Go.Sort.partitionEqual ltN d a b pivot = Go.Sort.partEqLoop ltN a (a + 1) (b - 1) d1 := by
  subst hd1
  rfl
/-! ### partialInsertionSort -/
theorem ss_go (h : i < b) (hp : ltN d[i]! d[i - 1]! = false) : Go.Sort.scanSorted ltN d b i = Go.Sort.scanSorted ltN d b (i + 1) := by rw [Go.Sort.scanSorted, if_pos (by rw [hp, decide_eq_true h]; rfl)]
theorem ss_stop (h : ¬ i < b ∨ ltN d[i]! d[i - 1]! = true) : Go.Sort.scanSorted ltN d b i = i := by
  rw [Go.Sort.scanSorted, if_neg]
  rcases h with h | h
  · rw [decide_eq_false h]; simp
  · rw [h]; simp
theorem sw_stop (h : j = 0 ∨ ltN d[j]! d[j - 1]! = false) : Go.Sort.shiftDown ltN j d = d := by
  cases j with
  | zero => rfl
  | succ j =>
    rcases h with h | h
    · omega
    · simp only [Nat.add_sub_cancel] at h
      rw [Go.Sort.shiftDown, if_pos (by rw [h]; rfl)]
theorem sw_go (h0 : 1 ≤ j) (h : ltN d[j]! d[j - 1]! = true) : Go.Sort.shiftDown ltN j d = Go.Sort.shiftDown ltN (j - 1) (swp d j (j - 1)) := by
  cases j with
  | zero => omega
  | succ j =>
    simp only [Nat.add_sub_cancel] at h
    rw [Go.Sort.shiftDown, if_neg (by rw [h]; decide)]
    rfl
theorem sp_stop (h : ¬ j < b ∨ ltN d[j]! d[j - 1]! = false) : Go.Sort.shiftUp ltN b j d = d := by
  rw [Go.Sort.shiftUp]
  split
  · rename_i hb
    rcases h with h | h
    · exact absurd hb h
    · rw [if_pos (by rw [h]; rfl)]
  · rfl
theorem sp_go (h0 : j < b) (h : ltN d[j]! d[j - 1]! = true) : Go.Sort.shiftUp ltN b j d = Go.Sort.shiftUp ltN b (j + 1) (swp d j (j - 1)) := by
  rw [Go.Sort.shiftUp, if_pos h0, if_neg (by rw [h]; decide)]
theorem pi_true {s : Nat} (h1 : Go.Sort.scanSorted ltN d b i = i2) (h : i2 = b) : Go.Sort.partialIns ltN a b (s + 1) i d = (d, true) := by
  rw [Go.Sort.partialIns]
  simp only
  rw [h1, if_pos h]
theorem pi_short {s : Nat} (h1 : Go.Sort.scanSorted ltN d b i = i2) (h : ¬ i2 = b) (h5 : b - a < 50) : Go.Sort.partialIns ltN a b (s + 1) i d = (d, false) := by
  rw [Go.Sort.partialIns]
  simp only
  rw [h1, if_neg h, if_pos h5]
theorem pi_go {s : Nat} {da db dc : Array Nat} (h1 : Go.Sort.scanSorted ltN d b i = i2) (h : ¬ i2 = b) (h5 : ¬ b - a < 50) (ha : da = swp d i2 (i2 - 1)) (hb : db = if 2 ≤ i2 - a then Go.Sort.shiftDown ltN (i2 - 1) da else da) (hc : dc = if 2 ≤ b - i2 then Go.Sort.shiftUp ltN b (i2 + 1) db else db) :
    Go.Sort.partialIns ltN a b (s + 1) i d = Go.Sort.partialIns ltN a b s i2 dc := by
  subst ha; subst hb; subst hc
  rw [Go.Sort.partialIns]
  simp only
  rw [h1, if_neg h, if_neg h5]
end
/-! ### bits, patterns -/
theorem rev_go {i j : Nat} {d : Array Nat} (h : i < j) : Go.Sort.reverseLoop i j d = Go.Sort.reverseLoop (i + 1) (j - 1) (swp d i j) := by rw [Go.Sort.reverseLoop, if_pos h]
theorem rev_stop {i j : Nat} {d : Array Nat} (h : ¬ i < j) : Go.Sort.reverseLoop i j d = d := by rw [Go.Sort.reverseLoop, if_neg h]
theorem xor_u64 {x y : Nat} (hx : x < 18446744073709551616) (hy : y < 18446744073709551616) : (x ^^^ y) < 18446744073709551616 := by
  have p : (18446744073709551616 : Nat) = 2 ^ 64 := by decide
  rw [p] at hx hy ⊢
  exact Nat.xor_lt_two_pow hx hy
theorem shl_u64 {x k : Nat} : IntKind.u64.wrap ((x : Int) * 2 ^ k) = ((x * 2 ^ k % 18446744073709551616 : Nat) : Int) := by
  simp only [IntKind.wrap, IntKind.bits, IntKind.signed]
  simp
theorem pow_bits {x : Nat} (h0 : 0 < x) (h : x < 65536) : 1 ≤ 2 ^ Go.Sort.bitsLen x ∧ 2 ^ Go.Sort.bitsLen x ≤ 2 * x ∧ Go.Sort.bitsLen x ≤ 17 := by
  refine ⟨Nat.one_le_two_pow, Go.Sort.two_pow_bitsLen_le h0, ?_⟩
  exact (Go.Sort.bitsLen_le_iff x 17).2 (by omega)
theorem bits_le {x : Nat} (h : x < 65536) : Go.Sort.bitsLen x ≤ 16 := (Go.Sort.bitsLen_le_iff x 16).2 (by omega)
/-- What is asked of what comes back: the part sorted, all else as it was. -/
abbrev Srt (a b : Nat) (d d' : Array Nat) : Prop := Go.Sort.PermIn a b d d' ∧ Go.Sort.SortedIn ltN a b d'
end Go.Sl

/- walks (own work; the walks' lines by a program of this repo). -/
set_option linter.unusedVariables false
set_option linter.unusedSimpArgs false
set_option maxRecDepth 20000
namespace Go.Proofs.Ytaeooiogjhkjfaa
open Go.Sl
attribute [local irreducible] BodyQ WpC WpL WpS WpH OpW FnS



set_option maxHeartbeats 1000000 in

theorem sift_u {w0 : World} {H : Hp} {sb n cap : Nat} {sp : List Value} (d : Array Nat) (hd : d.size = n) (hn : n < 4611686018427387904) (root hi first : Nat) (hr : root ≤ n) (hf : first + hi ≤ n) : FnS Try.prog w0 113 #[(.slice (some ⟨sb, 0, none⟩) n cap), .int .i64 ((root : Nat) : Int), .int .i64 ((hi : Nat) : Int), .int .i64 ((first : Nat) : Int)] (useg 58 sb d sp :: H) (fun e H' => e = .returned (.tuple #[]) ∧ H' = useg 58 sb (Go.Sort.siftDown ltN hi first root d) sp :: H) := by
  refine FnS_intro (n := 76) (rs := []) (vs := [(.slice (some ⟨sb, 0, none⟩) n cap), .int .i64 ((root : Nat) : Int), .int .i64 ((hi : Nat) : Int), .int .i64 ((first : Nat) : Int)]) Try.func113 rfl Try.ntmps113 rfl rfl ?_
  refine C_seq ?_
  refine C_region ?_
  refine L_y rfl (y_move rfl) rfl ?_
  refine L_y rfl (y_assign rfl) rfl ?_
  refine L_nil ?_
  refine C_block ?_
  refine C_loop (ι := Array Nat × Nat) (fun i => [(0, (.slice (some ⟨sb, 0, none⟩) n cap)), (2, .int .i64 ((hi : Nat) : Int)), (3, .int .i64 ((first : Nat) : Int)), (8, .int .i64 ((i.2 : Nat) : Int))]) (fun i => useg 58 sb i.1 sp :: H) (fun i => i.1.size = n ∧ i.2 ≤ n ∧ Go.Sort.siftDown ltN hi first i.2 i.1 = Go.Sort.siftDown ltN hi first root d) (fun i => hi - i.2) (d, root) ⟨hd, hr, rfl⟩ ⟨rfl, rfl, rfl, rfl, trivial⟩ ((hsub (.cons_cons _ (.refl _))).trans (hsub_pick [0] rfl)) (fun q hq => ?_)
  obtain ⟨d1, r⟩ := q
  obtain ⟨hs1, hrn, hr1⟩ := hq
  try simp only at hs1 hrn hr1
  try dsimp only
  refine C_block ?_
  refine C_seq ?_
  refine C_region ?_
  refine L_y rfl (y_move rfl) rfl ?_
  refine L_y rfl (y_mul rfl rfl (show _ = ((2 * r : Nat) : Int) from by rw [wi64 (by omega) (by omega)]; omega)) rfl ?_
  refine L_y rfl (y_add rfl rfl (show _ = ((2 * r + 1 : Nat) : Int) from by rw [wi64 (by omega) (by omega)]; omega)) rfl ?_
  refine L_y rfl (y_assign rfl) rfl ?_
  refine L_nil ?_
  refine C_seq ?_
  refine C_seq ?_
  refine C_region ?_
  refine L_y rfl (y_move rfl) rfl ?_
  refine L_y rfl (y_move rfl) rfl ?_
  refine L_y rfl (y_geq rfl rfl) rfl ?_
  refine L_nil ?_
  refine C_cond rfl (fun hc0 => ?_) (fun hc0 => ?_)
  · replace hc0 : hi ≤ 2 * r + 1 := by have := of_decide_eq_true hc0; omega
    have hfin : Go.Sort.siftDown ltN hi first r d1 = d1 := sd_stop hc0
    refine C_exit ?_
    refine B_end rv_nil ((hsub (.cons_cons _ (.refl _))).trans (hsub_pick [0] rfl)) ?_
    refine ⟨rfl, ?_⟩
    first
    | (rw [← hr1, hfin]; done)
    | (rw [← hr1, hfin]; rfl)
    | (rw [← hr1, sd_2s h2 hl (by simpa using hc2)]; rfl)
    | (rw [← hr1, sd_1s hc0 hnn (by simpa using hc2)]; rfl)
  · replace hc0 : 2 * r + 1 < hi := by have := of_decide_eq_false hc0; omega
    refine C_skip ?_
    refine C_seq ?_
    refine C_seq ?_
    refine C_regionH0 (by kernel_rfl) ?_
    refine H_y 0 rfl (by kernel_rfl) (by kernel_rfl) (by kernel_rfl) (HSub.refl _) rfl (y_move rfl) rfl ?_
    refine H_y 1 rfl (by kernel_rfl) (by kernel_rfl) (by kernel_rfl) (HSub.refl _) rfl (y_add rfl rfl (show _ = ((2 * r + 2 : Nat) : Int) from by rw [wi64 (by omega) (by omega)]; omega)) rfl ?_
    refine H_y 2 rfl (by kernel_rfl) (by kernel_rfl) (by kernel_rfl) (HSub.refl _) rfl (y_move rfl) rfl ?_
    refine H_y 3 rfl (by kernel_rfl) (by kernel_rfl) (by kernel_rfl) (HSub.refl _) rfl (y_lss rfl rfl) rfl ?_
    refine H_y 4 rfl (by kernel_rfl) (by kernel_rfl) (by kernel_rfl) (HSub.refl _) rfl (y_move rfl) rfl ?_
    refine H_case 21 rfl (fun hg3_5 => ?_) (fun hg3_5 => ?_)
    · have h2 : 2 * r + 2 < hi := by have := of_decide_eq_true hg3_5; omega
      refine H_y 5 rfl (by kernel_rfl) (by kernel_rfl) (by kernel_rfl) (HSub.refl _) rfl (y_move rfl) rfl ?_
      refine H_y 6 rfl (by kernel_rfl) (by kernel_rfl) (by kernel_rfl) (HSub.refl _) rfl (y_move rfl) rfl ?_
      refine H_y 7 rfl (by kernel_rfl) (by kernel_rfl) (by kernel_rfl) (HSub.refl _) rfl (y_move rfl) rfl ?_
      refine H_y 8 rfl (by kernel_rfl) (by kernel_rfl) (by kernel_rfl) (HSub.refl _) rfl (y_add rfl rfl (show _ = ((first + (2 * r + 1) : Nat) : Int) from by rw [wi64 (by omega) (by omega)]; omega)) rfl ?_
      refine H_y 9 rfl (by kernel_rfl) (by kernel_rfl) (by kernel_rfl) (HSub.refl _) rfl (y_indexS rfl rfl Try.underlying63 sz_58 (by omega) (by omega) (ix0 (first + (2 * r + 1)))) rfl ?_
      refine H_y 10 rfl (by kernel_rfl) (by kernel_rfl) (by kernel_rfl) (HSub.refl _) rfl (y_load rfl ag_58 (sees 0 0 rfl) (us_at (by omega))) rfl ?_
      refine H_y 11 rfl (by kernel_rfl) (by kernel_rfl) (by kernel_rfl) (HSub.refl _) rfl (y_move rfl) rfl ?_
      refine H_y 12 rfl (by kernel_rfl) (by kernel_rfl) (by kernel_rfl) (HSub.refl _) rfl (y_move rfl) rfl ?_
      refine H_y 13 rfl (by kernel_rfl) (by kernel_rfl) (by kernel_rfl) (HSub.refl _) rfl (y_move rfl) rfl ?_
      refine H_y 14 rfl (by kernel_rfl) (by kernel_rfl) (by kernel_rfl) (HSub.refl _) rfl (y_add rfl rfl (show _ = ((first + (2 * r + 1) : Nat) : Int) from by rw [wi64 (by omega) (by omega)]; omega)) rfl ?_
      refine H_y 15 rfl (by kernel_rfl) (by kernel_rfl) (by kernel_rfl) (HSub.refl _) rfl (y_add rfl rfl (show _ = ((first + (2 * r + 2) : Nat) : Int) from by rw [wi64 (by omega) (by omega)]; omega)) rfl ?_
      refine H_y 16 rfl (by kernel_rfl) (by kernel_rfl) (by kernel_rfl) (HSub.refl _) rfl (y_indexS rfl rfl Try.underlying63 sz_58 (by omega) (by omega) (ix0 (first + (2 * r + 2)))) rfl ?_
      refine H_y 17 rfl (by kernel_rfl) (by kernel_rfl) (by kernel_rfl) (HSub.refl _) rfl (y_load rfl ag_58 (sees 0 0 rfl) (us_at (by omega))) rfl ?_
      refine H_one 18 rfl (by kernel_rfl) rfl (op_call rfl rfl (fun a w => Try.call108 a w) rfl ?_)
      refine (less_u (d1[first + (2 * r + 1)]!) (d1[first + (2 * r + 2)]!)).mono ?_
      rintro _ _ ⟨rfl, e⟩
      obtain rfl := e.symm
      clear e
      refine ⟨_, rfl, ?_⟩
      refine ⟨HSub.refl _, ?_⟩
      refine H_y 19 rfl (by kernel_rfl) (by kernel_rfl) (by kernel_rfl) (HSub.refl _) rfl (y_pick_t rfl rfl) rfl ?_
      refine H_done (by kernel_rfl) ?_
      refine C_cond rfl (fun hc1 => ?_) (fun hc1 => ?_)
      · have hl : ltN d1[first + (2 * r + 1)]! d1[first + (2 * r + 2)]! = true := hc1
        refine C_region ?_
        refine L_y rfl (y_move rfl) rfl ?_
        refine L_y rfl (y_add rfl rfl (show _ = ((2 * r + 2 : Nat) : Int) from by rw [wi64 (by omega) (by omega)]; omega)) rfl ?_
        refine L_y rfl (y_assign rfl) rfl ?_
        refine L_nil ?_
        refine C_seq ?_
        refine C_seq ?_
        refine C_regionH0 (by kernel_rfl) ?_
        refine H_y 0 rfl (by kernel_rfl) (by kernel_rfl) (by kernel_rfl) (HSub.refl _) rfl (y_move rfl) rfl ?_
        refine H_y 1 rfl (by kernel_rfl) (by kernel_rfl) (by kernel_rfl) (HSub.refl _) rfl (y_move rfl) rfl ?_
        refine H_y 2 rfl (by kernel_rfl) (by kernel_rfl) (by kernel_rfl) (HSub.refl _) rfl (y_move rfl) rfl ?_
        refine H_y 3 rfl (by kernel_rfl) (by kernel_rfl) (by kernel_rfl) (HSub.refl _) rfl (y_add rfl rfl (show _ = ((first + r : Nat) : Int) from by rw [wi64 (by omega) (by omega)]; omega)) rfl ?_
        refine H_y 4 rfl (by kernel_rfl) (by kernel_rfl) (by kernel_rfl) (HSub.refl _) rfl (y_indexS rfl rfl Try.underlying63 sz_58 (by omega) (by omega) (ix0 (first + r))) rfl ?_
        refine H_y 5 rfl (by kernel_rfl) (by kernel_rfl) (by kernel_rfl) (HSub.refl _) rfl (y_load rfl ag_58 (sees 0 0 rfl) (us_at (by omega))) rfl ?_
        refine H_y 6 rfl (by kernel_rfl) (by kernel_rfl) (by kernel_rfl) (HSub.refl _) rfl (y_move rfl) rfl ?_
        refine H_y 7 rfl (by kernel_rfl) (by kernel_rfl) (by kernel_rfl) (HSub.refl _) rfl (y_move rfl) rfl ?_
        refine H_y 8 rfl (by kernel_rfl) (by kernel_rfl) (by kernel_rfl) (HSub.refl _) rfl (y_move rfl) rfl ?_
        refine H_y 9 rfl (by kernel_rfl) (by kernel_rfl) (by kernel_rfl) (HSub.refl _) rfl (y_add rfl rfl (show _ = ((first + (2 * r + 2) : Nat) : Int) from by rw [wi64 (by omega) (by omega)]; omega)) rfl ?_
        refine H_y 10 rfl (by kernel_rfl) (by kernel_rfl) (by kernel_rfl) (HSub.refl _) rfl (y_indexS rfl rfl Try.underlying63 sz_58 (by omega) (by omega) (ix0 (first + (2 * r + 2)))) rfl ?_
        refine H_y 11 rfl (by kernel_rfl) (by kernel_rfl) (by kernel_rfl) (HSub.refl _) rfl (y_load rfl ag_58 (sees 0 0 rfl) (us_at (by omega))) rfl ?_
        refine H_one 12 rfl (by kernel_rfl) rfl (op_call rfl rfl (fun a w => Try.call108 a w) rfl ?_)
        refine (less_u (d1[first + r]!) (d1[first + (2 * r + 2)]!)).mono ?_
        rintro _ _ ⟨rfl, e⟩
        obtain rfl := e.symm
        clear e
        refine ⟨_, rfl, ?_⟩
        refine ⟨HSub.refl _, ?_⟩
        refine H_y 13 rfl (by kernel_rfl) (by kernel_rfl) (by kernel_rfl) (HSub.refl _) rfl (y_not rfl) rfl ?_
        refine H_done (by kernel_rfl) ?_
        refine C_cond rfl (fun hc2 => ?_) (fun hc2 => ?_)
        · skip
          refine C_ret ?_
          refine B_ret rv_nil ((hsub (.cons_cons _ (.refl _))).trans (hsub_pick [0] rfl)) ?_
          refine ⟨rfl, ?_⟩
          first
          | (rw [← hr1, hfin]; done)
          | (rw [← hr1, hfin]; rfl)
          | (rw [← hr1, sd_2s h2 hl (by simpa using hc2)]; rfl)
          | (rw [← hr1, sd_1s hc0 hnn (by simpa using hc2)]; rfl)
        · skip
          refine C_skip ?_
          refine C_seq ?_
          have hg : ltN d1[first + r]! d1[first + (2 * r + 2)]! = true := by simpa using hc2
          refine C_regionH H (by kernel_rfl) ?_
          refine H_y 0 rfl (by kernel_rfl) (by kernel_rfl) (by kernel_rfl) ((hsub (.cons _ (.refl _)))) rfl (y_move rfl) rfl ?_
          refine H_y 1 rfl (by kernel_rfl) (by kernel_rfl) (by kernel_rfl) ((hsub (.cons _ (.refl _)))) rfl (y_move rfl) rfl ?_
          refine H_y 2 rfl (by kernel_rfl) (by kernel_rfl) (by kernel_rfl) ((hsub (.cons _ (.refl _)))) rfl (y_move rfl) rfl ?_
          refine H_y 3 rfl (by kernel_rfl) (by kernel_rfl) (by kernel_rfl) ((hsub (.cons _ (.refl _)))) rfl (y_add rfl rfl (show _ = ((first + r : Nat) : Int) from by rw [wi64 (by omega) (by omega)]; omega)) rfl ?_
          refine H_y 4 rfl (by kernel_rfl) (by kernel_rfl) (by kernel_rfl) ((hsub (.cons _ (.refl _)))) rfl (y_move rfl) rfl ?_
          refine H_y 5 rfl (by kernel_rfl) (by kernel_rfl) (by kernel_rfl) ((hsub (.cons _ (.refl _)))) rfl (y_move rfl) rfl ?_
          refine H_y 6 rfl (by kernel_rfl) (by kernel_rfl) (by kernel_rfl) ((hsub (.cons _ (.refl _)))) rfl (y_move rfl) rfl ?_
          refine H_y 7 rfl (by kernel_rfl) (by kernel_rfl) (by kernel_rfl) ((hsub (.cons _ (.refl _)))) rfl (y_add rfl rfl (show _ = ((first + (2 * r + 2) : Nat) : Int) from by rw [wi64 (by omega) (by omega)]; omega)) rfl ?_
          refine H_y 8 rfl (by kernel_rfl) (by kernel_rfl) (by kernel_rfl) ((hsub (.cons _ (.refl _)))) rfl (y_move rfl) rfl ?_
          refine H_y 9 rfl (by kernel_rfl) (by kernel_rfl) (by kernel_rfl) ((hsub (.cons _ (.refl _)))) rfl (y_move rfl) rfl ?_
          refine H_y 10 rfl (by kernel_rfl) (by kernel_rfl) (by kernel_rfl) ((hsub (.cons _ (.refl _)))) rfl (y_move rfl) rfl ?_
          refine H_y 11 rfl (by kernel_rfl) (by kernel_rfl) (by kernel_rfl) ((hsub (.cons _ (.refl _)))) rfl (y_add rfl rfl (show _ = ((first + (2 * r + 2) : Nat) : Int) from by rw [wi64 (by omega) (by omega)]; omega)) rfl ?_
          refine H_y 12 rfl (by kernel_rfl) (by kernel_rfl) (by kernel_rfl) ((hsub (.cons _ (.refl _)))) rfl (y_indexS rfl rfl Try.underlying63 sz_58 (by omega) (by omega) (ix0 (first + (2 * r + 2)))) rfl ?_
          refine H_y 14 rfl (by kernel_rfl) (by kernel_rfl) (by kernel_rfl) ((hsub (.cons _ (.refl _)))) rfl (y_move rfl) rfl ?_
          refine H_y 15 rfl (by kernel_rfl) (by kernel_rfl) (by kernel_rfl) ((hsub (.cons _ (.refl _)))) rfl (y_move rfl) rfl ?_
          refine H_y 16 rfl (by kernel_rfl) (by kernel_rfl) (by kernel_rfl) ((hsub (.cons _ (.refl _)))) rfl (y_move rfl) rfl ?_
          refine H_y 17 rfl (by kernel_rfl) (by kernel_rfl) (by kernel_rfl) ((hsub (.cons _ (.refl _)))) rfl (y_add rfl rfl (show _ = ((first + r : Nat) : Int) from by rw [wi64 (by omega) (by omega)]; omega)) rfl ?_
          refine H_y 18 rfl (by kernel_rfl) (by kernel_rfl) (by kernel_rfl) ((hsub (.cons _ (.refl _)))) rfl (y_indexS rfl rfl Try.underlying63 sz_58 (by omega) (by omega) (ix0 (first + r))) rfl ?_
          refine H_two 13 19 rfl rfl (by kernel_rfl) rfl rfl ?_ ?_
          · refine op_y (y_load rfl ag_58 (sees 0 0 rfl) (us_at (by omega))) rfl ?_
            refine ⟨(hsub (.cons _ (.refl _))), ?_⟩
            refine H_one 19 rfl (by kernel_rfl) rfl (op_y (y_load rfl ag_58 (sees 0 0 rfl) (us_at (by omega))) rfl ?_)
            refine ⟨(hsub (.cons _ (.refl _))), ?_⟩
            refine H_y 20 rfl (by kernel_rfl) (by kernel_rfl) (by kernel_rfl) ((hsub (.cons _ (.refl _)))) rfl (y_indexS rfl rfl Try.underlying63 sz_58 (by omega) (by omega) (ix0 (first + r))) rfl ?_
            refine H_one 21 rfl (by kernel_rfl) rfl (op_store1 0 0 rfl rfl rfl sz_58 rfl (us_lt (by omega)) ?_)
            refine ⟨(hsub (.cons _ (.refl _))), ?_⟩
            refine H_y 22 rfl (by kernel_rfl) (by kernel_rfl) (by kernel_rfl) ((hsub (.cons _ (.refl _)))) rfl (y_indexS rfl rfl Try.underlying63 sz_58 (by omega) (by omega) (ix0 (first + (2 * r + 2)))) rfl ?_
            refine H_one 23 rfl (by kernel_rfl) rfl (op_store1 0 0 rfl rfl rfl sz_58 rfl (by rw [List.length_set]; exact us_lt (by omega)) ?_)
            refine ⟨(hsub (.cons _ (.refl _))), ?_⟩
            refine H_done (by kernel_rfl) ?_
            rw [us_swp (by omega) (by omega)]
            refine C_region ?_
            refine L_y rfl (y_move rfl) rfl ?_
            refine L_y rfl (y_assign rfl) rfl ?_
            refine L_nil ?_
            exact ⟨(Go.Sort.swp d1 (first + r) (first + (2 * r + 2)), (2 * r + 2)), ⟨by simp only; rw [swp_size]; exact hs1, by simp only; omega, by simp only; rw [← hr1, sd_2 h2 hl hg]⟩, by simp only; omega, ⟨rfl, rfl, rfl, rfl, trivial⟩, ((hsub (.cons_cons _ (.refl _))).trans (hsub_pick [0] rfl))⟩
          · refine op_y (y_load rfl ag_58 (sees 0 0 rfl) (us_at (by omega))) rfl ?_
            refine ⟨(hsub (.cons _ (.refl _))), ?_⟩
            refine H_one 13 rfl (by kernel_rfl) rfl (op_y (y_load rfl ag_58 (sees 0 0 rfl) (us_at (by omega))) rfl ?_)
            refine ⟨(hsub (.cons _ (.refl _))), ?_⟩
            refine H_y 20 rfl (by kernel_rfl) (by kernel_rfl) (by kernel_rfl) ((hsub (.cons _ (.refl _)))) rfl (y_indexS rfl rfl Try.underlying63 sz_58 (by omega) (by omega) (ix0 (first + r))) rfl ?_
            refine H_one 21 rfl (by kernel_rfl) rfl (op_store1 0 0 rfl rfl rfl sz_58 rfl (us_lt (by omega)) ?_)
            refine ⟨(hsub (.cons _ (.refl _))), ?_⟩
            refine H_y 22 rfl (by kernel_rfl) (by kernel_rfl) (by kernel_rfl) ((hsub (.cons _ (.refl _)))) rfl (y_indexS rfl rfl Try.underlying63 sz_58 (by omega) (by omega) (ix0 (first + (2 * r + 2)))) rfl ?_
            refine H_one 23 rfl (by kernel_rfl) rfl (op_store1 0 0 rfl rfl rfl sz_58 rfl (by rw [List.length_set]; exact us_lt (by omega)) ?_)
            refine ⟨(hsub (.cons _ (.refl _))), ?_⟩
            refine H_done (by kernel_rfl) ?_
            rw [us_swp (by omega) (by omega)]
            refine C_region ?_
            refine L_y rfl (y_move rfl) rfl ?_
            refine L_y rfl (y_assign rfl) rfl ?_
            refine L_nil ?_
            exact ⟨(Go.Sort.swp d1 (first + r) (first + (2 * r + 2)), (2 * r + 2)), ⟨by simp only; rw [swp_size]; exact hs1, by simp only; omega, by simp only; rw [← hr1, sd_2 h2 hl hg]⟩, by simp only; omega, ⟨rfl, rfl, rfl, rfl, trivial⟩, ((hsub (.cons_cons _ (.refl _))).trans (hsub_pick [0] rfl))⟩
      · have hl : ltN d1[first + (2 * r + 1)]! d1[first + (2 * r + 2)]! = false := hc1
        have hnn : ¬ 2 * r + 2 < hi ∨ ltN d1[first + (2 * r + 1)]! d1[first + (2 * r + 2)]! = false := .inr hl
        refine C_skip ?_
        refine C_seq ?_
        refine C_seq ?_
        refine C_regionH0 (by kernel_rfl) ?_
        refine H_y 0 rfl (by kernel_rfl) (by kernel_rfl) (by kernel_rfl) (HSub.refl _) rfl (y_move rfl) rfl ?_
        refine H_y 1 rfl (by kernel_rfl) (by kernel_rfl) (by kernel_rfl) (HSub.refl _) rfl (y_move rfl) rfl ?_
        refine H_y 2 rfl (by kernel_rfl) (by kernel_rfl) (by kernel_rfl) (HSub.refl _) rfl (y_move rfl) rfl ?_
        refine H_y 3 rfl (by kernel_rfl) (by kernel_rfl) (by kernel_rfl) (HSub.refl _) rfl (y_add rfl rfl (show _ = ((first + r : Nat) : Int) from by rw [wi64 (by omega) (by omega)]; omega)) rfl ?_
        refine H_y 4 rfl (by kernel_rfl) (by kernel_rfl) (by kernel_rfl) (HSub.refl _) rfl (y_indexS rfl rfl Try.underlying63 sz_58 (by omega) (by omega) (ix0 (first + r))) rfl ?_
        refine H_y 5 rfl (by kernel_rfl) (by kernel_rfl) (by kernel_rfl) (HSub.refl _) rfl (y_load rfl ag_58 (sees 0 0 rfl) (us_at (by omega))) rfl ?_
        refine H_y 6 rfl (by kernel_rfl) (by kernel_rfl) (by kernel_rfl) (HSub.refl _) rfl (y_move rfl) rfl ?_
        refine H_y 7 rfl (by kernel_rfl) (by kernel_rfl) (by kernel_rfl) (HSub.refl _) rfl (y_move rfl) rfl ?_
        refine H_y 8 rfl (by kernel_rfl) (by kernel_rfl) (by kernel_rfl) (HSub.refl _) rfl (y_move rfl) rfl ?_
        refine H_y 9 rfl (by kernel_rfl) (by kernel_rfl) (by kernel_rfl) (HSub.refl _) rfl (y_add rfl rfl (show _ = ((first + (2 * r + 1) : Nat) : Int) from by rw [wi64 (by omega) (by omega)]; omega)) rfl ?_
        refine H_y 10 rfl (by kernel_rfl) (by kernel_rfl) (by kernel_rfl) (HSub.refl _) rfl (y_indexS rfl rfl Try.underlying63 sz_58 (by omega) (by omega) (ix0 (first + (2 * r + 1)))) rfl ?_
        refine H_y 11 rfl (by kernel_rfl) (by kernel_rfl) (by kernel_rfl) (HSub.refl _) rfl (y_load rfl ag_58 (sees 0 0 rfl) (us_at (by omega))) rfl ?_
        refine H_one 12 rfl (by kernel_rfl) rfl (op_call rfl rfl (fun a w => Try.call108 a w) rfl ?_)
        refine (less_u (d1[first + r]!) (d1[first + (2 * r + 1)]!)).mono ?_
        rintro _ _ ⟨rfl, e⟩
        obtain rfl := e.symm
        clear e
        refine ⟨_, rfl, ?_⟩
        refine ⟨HSub.refl _, ?_⟩
        refine H_y 13 rfl (by kernel_rfl) (by kernel_rfl) (by kernel_rfl) (HSub.refl _) rfl (y_not rfl) rfl ?_
        refine H_done (by kernel_rfl) ?_
        refine C_cond rfl (fun hc2 => ?_) (fun hc2 => ?_)
        · skip
          refine C_ret ?_
          refine B_ret rv_nil ((hsub (.cons_cons _ (.refl _))).trans (hsub_pick [0] rfl)) ?_
          refine ⟨rfl, ?_⟩
          first
          | (rw [← hr1, hfin]; done)
          | (rw [← hr1, hfin]; rfl)
          | (rw [← hr1, sd_2s h2 hl (by simpa using hc2)]; rfl)
          | (rw [← hr1, sd_1s hc0 hnn (by simpa using hc2)]; rfl)
        · skip
          refine C_skip ?_
          refine C_seq ?_
          have hg : ltN d1[first + r]! d1[first + (2 * r + 1)]! = true := by simpa using hc2
          refine C_regionH H (by kernel_rfl) ?_
          refine H_y 0 rfl (by kernel_rfl) (by kernel_rfl) (by kernel_rfl) ((hsub (.cons _ (.refl _)))) rfl (y_move rfl) rfl ?_
          refine H_y 1 rfl (by kernel_rfl) (by kernel_rfl) (by kernel_rfl) ((hsub (.cons _ (.refl _)))) rfl (y_move rfl) rfl ?_
          refine H_y 2 rfl (by kernel_rfl) (by kernel_rfl) (by kernel_rfl) ((hsub (.cons _ (.refl _)))) rfl (y_move rfl) rfl ?_
          refine H_y 3 rfl (by kernel_rfl) (by kernel_rfl) (by kernel_rfl) ((hsub (.cons _ (.refl _)))) rfl (y_add rfl rfl (show _ = ((first + r : Nat) : Int) from by rw [wi64 (by omega) (by omega)]; omega)) rfl ?_
          refine H_y 4 rfl (by kernel_rfl) (by kernel_rfl) (by kernel_rfl) ((hsub (.cons _ (.refl _)))) rfl (y_move rfl) rfl ?_
          refine H_y 5 rfl (by kernel_rfl) (by kernel_rfl) (by kernel_rfl) ((hsub (.cons _ (.refl _)))) rfl (y_move rfl) rfl ?_
          refine H_y 6 rfl (by kernel_rfl) (by kernel_rfl) (by kernel_rfl) ((hsub (.cons _ (.refl _)))) rfl (y_move rfl) rfl ?_
          refine H_y 7 rfl (by kernel_rfl) (by kernel_rfl) (by kernel_rfl) ((hsub (.cons _ (.refl _)))) rfl (y_add rfl rfl (show _ = ((first + (2 * r + 1) : Nat) : Int) from by rw [wi64 (by omega) (by omega)]; omega)) rfl ?_
          refine H_y 8 rfl (by kernel_rfl) (by kernel_rfl) (by kernel_rfl) ((hsub (.cons _ (.refl _)))) rfl (y_move rfl) rfl ?_
          refine H_y 9 rfl (by kernel_rfl) (by kernel_rfl) (by kernel_rfl) ((hsub (.cons _ (.refl _)))) rfl (y_move rfl) rfl ?_
          refine H_y 10 rfl (by kernel_rfl) (by kernel_rfl) (by kernel_rfl) ((hsub (.cons _ (.refl _)))) rfl (y_move rfl) rfl ?_
          refine H_y 11 rfl (by kernel_rfl) (by kernel_rfl) (by kernel_rfl) ((hsub (.cons _ (.refl _)))) rfl (y_add rfl rfl (show _ = ((first + (2 * r + 1) : Nat) : Int) from by rw [wi64 (by omega) (by omega)]; omega)) rfl ?_
          refine H_y 12 rfl (by kernel_rfl) (by kernel_rfl) (by kernel_rfl) ((hsub (.cons _ (.refl _)))) rfl (y_indexS rfl rfl Try.underlying63 sz_58 (by omega) (by omega) (ix0 (first + (2 * r + 1)))) rfl ?_
          refine H_y 14 rfl (by kernel_rfl) (by kernel_rfl) (by kernel_rfl) ((hsub (.cons _ (.refl _)))) rfl (y_move rfl) rfl ?_
          refine H_y 15 rfl (by kernel_rfl) (by kernel_rfl) (by kernel_rfl) ((hsub (.cons _ (.refl _)))) rfl (y_move rfl) rfl ?_
          refine H_y 16 rfl (by kernel_rfl) (by kernel_rfl) (by kernel_rfl) ((hsub (.cons _ (.refl _)))) rfl (y_move rfl) rfl ?_
          refine H_y 17 rfl (by kernel_rfl) (by kernel_rfl) (by kernel_rfl) ((hsub (.cons _ (.refl _)))) rfl (y_add rfl rfl (show _ = ((first + r : Nat) : Int) from by rw [wi64 (by omega) (by omega)]; omega)) rfl ?_
          refine H_y 18 rfl (by kernel_rfl) (by kernel_rfl) (by kernel_rfl) ((hsub (.cons _ (.refl _)))) rfl (y_indexS rfl rfl Try.underlying63 sz_58 (by omega) (by omega) (ix0 (first + r))) rfl ?_
          refine H_two 13 19 rfl rfl (by kernel_rfl) rfl rfl ?_ ?_
          · refine op_y (y_load rfl ag_58 (sees 0 0 rfl) (us_at (by omega))) rfl ?_
            refine ⟨(hsub (.cons _ (.refl _))), ?_⟩
            refine H_one 19 rfl (by kernel_rfl) rfl (op_y (y_load rfl ag_58 (sees 0 0 rfl) (us_at (by omega))) rfl ?_)
            refine ⟨(hsub (.cons _ (.refl _))), ?_⟩
            refine H_y 20 rfl (by kernel_rfl) (by kernel_rfl) (by kernel_rfl) ((hsub (.cons _ (.refl _)))) rfl (y_indexS rfl rfl Try.underlying63 sz_58 (by omega) (by omega) (ix0 (first + r))) rfl ?_
            refine H_one 21 rfl (by kernel_rfl) rfl (op_store1 0 0 rfl rfl rfl sz_58 rfl (us_lt (by omega)) ?_)
            refine ⟨(hsub (.cons _ (.refl _))), ?_⟩
            refine H_y 22 rfl (by kernel_rfl) (by kernel_rfl) (by kernel_rfl) ((hsub (.cons _ (.refl _)))) rfl (y_indexS rfl rfl Try.underlying63 sz_58 (by omega) (by omega) (ix0 (first + (2 * r + 1)))) rfl ?_
            refine H_one 23 rfl (by kernel_rfl) rfl (op_store1 0 0 rfl rfl rfl sz_58 rfl (by rw [List.length_set]; exact us_lt (by omega)) ?_)
            refine ⟨(hsub (.cons _ (.refl _))), ?_⟩
            refine H_done (by kernel_rfl) ?_
            rw [us_swp (by omega) (by omega)]
            refine C_region ?_
            refine L_y rfl (y_move rfl) rfl ?_
            refine L_y rfl (y_assign rfl) rfl ?_
            refine L_nil ?_
            exact ⟨(Go.Sort.swp d1 (first + r) (first + (2 * r + 1)), (2 * r + 1)), ⟨by simp only; rw [swp_size]; exact hs1, by simp only; omega, by simp only; rw [← hr1, sd_1 hc0 hnn hg]⟩, by simp only; omega, ⟨rfl, rfl, rfl, rfl, trivial⟩, ((hsub (.cons_cons _ (.refl _))).trans (hsub_pick [0] rfl))⟩
          · refine op_y (y_load rfl ag_58 (sees 0 0 rfl) (us_at (by omega))) rfl ?_
            refine ⟨(hsub (.cons _ (.refl _))), ?_⟩
            refine H_one 13 rfl (by kernel_rfl) rfl (op_y (y_load rfl ag_58 (sees 0 0 rfl) (us_at (by omega))) rfl ?_)
            refine ⟨(hsub (.cons _ (.refl _))), ?_⟩
            refine H_y 20 rfl (by kernel_rfl) (by kernel_rfl) (by kernel_rfl) ((hsub (.cons _ (.refl _)))) rfl (y_indexS rfl rfl Try.underlying63 sz_58 (by omega) (by omega) (ix0 (first + r))) rfl ?_
            refine H_one 21 rfl (by kernel_rfl) rfl (op_store1 0 0 rfl rfl rfl sz_58 rfl (us_lt (by omega)) ?_)
            refine ⟨(hsub (.cons _ (.refl _))), ?_⟩
            refine H_y 22 rfl (by kernel_rfl) (by kernel_rfl) (by kernel_rfl) ((hsub (.cons _ (.refl _)))) rfl (y_indexS rfl rfl Try.underlying63 sz_58 (by omega) (by omega) (ix0 (first + (2 * r + 1)))) rfl ?_
            refine H_one 23 rfl (by kernel_rfl) rfl (op_store1 0 0 rfl rfl rfl sz_58 rfl (by rw [List.length_set]; exact us_lt (by omega)) ?_)
            refine ⟨(hsub (.cons _ (.refl _))), ?_⟩
            refine H_done (by kernel_rfl) ?_
            rw [us_swp (by omega) (by omega)]
            refine C_region ?_
            refine L_y rfl (y_move rfl) rfl ?_
            refine L_y rfl (y_assign rfl) rfl ?_
            refine L_nil ?_
            exact ⟨(Go.Sort.swp d1 (first + r) (first + (2 * r + 1)), (2 * r + 1)), ⟨by simp only; rw [swp_size]; exact hs1, by simp only; omega, by simp only; rw [← hr1, sd_1 hc0 hnn hg]⟩, by simp only; omega, ⟨rfl, rfl, rfl, rfl, trivial⟩, ((hsub (.cons_cons _ (.refl _))).trans (hsub_pick [0] rfl))⟩
    · have h2 : ¬ 2 * r + 2 < hi := by have := of_decide_eq_false hg3_5; omega
      have hnn : ¬ 2 * r + 2 < hi ∨ ltN d1[first + (2 * r + 1)]! d1[first + (2 * r + 2)]! = false := .inl h2
      refine H_skip 5 rfl (by kernel_rfl) (by kernel_rfl) (by kernel_rfl) (HSub.refl _) rfl rfl ?_
      refine H_skip 6 rfl (by kernel_rfl) (by kernel_rfl) (by kernel_rfl) (HSub.refl _) rfl rfl ?_
      refine H_skip 7 rfl (by kernel_rfl) (by kernel_rfl) (by kernel_rfl) (HSub.refl _) rfl rfl ?_
      refine H_skip 8 rfl (by kernel_rfl) (by kernel_rfl) (by kernel_rfl) (HSub.refl _) rfl rfl ?_
      refine H_skip 9 rfl (by kernel_rfl) (by kernel_rfl) (by kernel_rfl) (HSub.refl _) rfl rfl ?_
      refine H_skip 10 rfl (by kernel_rfl) (by kernel_rfl) (by kernel_rfl) (HSub.refl _) rfl rfl ?_
      refine H_skip 11 rfl (by kernel_rfl) (by kernel_rfl) (by kernel_rfl) (HSub.refl _) rfl rfl ?_
      refine H_skip 12 rfl (by kernel_rfl) (by kernel_rfl) (by kernel_rfl) (HSub.refl _) rfl rfl ?_
      refine H_skip 13 rfl (by kernel_rfl) (by kernel_rfl) (by kernel_rfl) (HSub.refl _) rfl rfl ?_
      refine H_skip 14 rfl (by kernel_rfl) (by kernel_rfl) (by kernel_rfl) (HSub.refl _) rfl rfl ?_
      refine H_skip 15 rfl (by kernel_rfl) (by kernel_rfl) (by kernel_rfl) (HSub.refl _) rfl rfl ?_
      refine H_skip 16 rfl (by kernel_rfl) (by kernel_rfl) (by kernel_rfl) (HSub.refl _) rfl rfl ?_
      refine H_skip 17 rfl (by kernel_rfl) (by kernel_rfl) (by kernel_rfl) (HSub.refl _) rfl rfl ?_
      refine H_skip 18 rfl (by kernel_rfl) (by kernel_rfl) (by kernel_rfl) (HSub.refl _) rfl rfl ?_
      refine H_y 19 rfl (by kernel_rfl) (by kernel_rfl) (by kernel_rfl) (HSub.refl _) rfl (y_pick_f rfl rfl) rfl ?_
      refine H_done (by kernel_rfl) ?_
      refine C_cond_f rfl ?_
      refine C_skip ?_
      refine C_seq ?_
      refine C_seq ?_
      refine C_regionH0 (by kernel_rfl) ?_
      refine H_y 0 rfl (by kernel_rfl) (by kernel_rfl) (by kernel_rfl) (HSub.refl _) rfl (y_move rfl) rfl ?_
      refine H_y 1 rfl (by kernel_rfl) (by kernel_rfl) (by kernel_rfl) (HSub.refl _) rfl (y_move rfl) rfl ?_
      refine H_y 2 rfl (by kernel_rfl) (by kernel_rfl) (by kernel_rfl) (HSub.refl _) rfl (y_move rfl) rfl ?_
      refine H_y 3 rfl (by kernel_rfl) (by kernel_rfl) (by kernel_rfl) (HSub.refl _) rfl (y_add rfl rfl (show _ = ((first + r : Nat) : Int) from by rw [wi64 (by omega) (by omega)]; omega)) rfl ?_
      refine H_y 4 rfl (by kernel_rfl) (by kernel_rfl) (by kernel_rfl) (HSub.refl _) rfl (y_indexS rfl rfl Try.underlying63 sz_58 (by omega) (by omega) (ix0 (first + r))) rfl ?_
      refine H_y 5 rfl (by kernel_rfl) (by kernel_rfl) (by kernel_rfl) (HSub.refl _) rfl (y_load rfl ag_58 (sees 0 0 rfl) (us_at (by omega))) rfl ?_
      refine H_y 6 rfl (by kernel_rfl) (by kernel_rfl) (by kernel_rfl) (HSub.refl _) rfl (y_move rfl) rfl ?_
      refine H_y 7 rfl (by kernel_rfl) (by kernel_rfl) (by kernel_rfl) (HSub.refl _) rfl (y_move rfl) rfl ?_
      refine H_y 8 rfl (by kernel_rfl) (by kernel_rfl) (by kernel_rfl) (HSub.refl _) rfl (y_move rfl) rfl ?_
      refine H_y 9 rfl (by kernel_rfl) (by kernel_rfl) (by kernel_rfl) (HSub.refl _) rfl (y_add rfl rfl (show _ = ((first + (2 * r + 1) : Nat) : Int) from by rw [wi64 (by omega) (by omega)]; omega)) rfl ?_
      refine H_y 10 rfl (by kernel_rfl) (by kernel_rfl) (by kernel_rfl) (HSub.refl _) rfl (y_indexS rfl rfl Try.underlying63 sz_58 (by omega) (by omega) (ix0 (first + (2 * r + 1)))) rfl ?_
      refine H_y 11 rfl (by kernel_rfl) (by kernel_rfl) (by kernel_rfl) (HSub.refl _) rfl (y_load rfl ag_58 (sees 0 0 rfl) (us_at (by omega))) rfl ?_
      refine H_one 12 rfl (by kernel_rfl) rfl (op_call rfl rfl (fun a w => Try.call108 a w) rfl ?_)
      refine (less_u (d1[first + r]!) (d1[first + (2 * r + 1)]!)).mono ?_
      rintro _ _ ⟨rfl, e⟩
      obtain rfl := e.symm
      clear e
      refine ⟨_, rfl, ?_⟩
      refine ⟨HSub.refl _, ?_⟩
      refine H_y 13 rfl (by kernel_rfl) (by kernel_rfl) (by kernel_rfl) (HSub.refl _) rfl (y_not rfl) rfl ?_
      refine H_done (by kernel_rfl) ?_
      refine C_cond rfl (fun hc2 => ?_) (fun hc2 => ?_)
      · skip
        refine C_ret ?_
        refine B_ret rv_nil ((hsub (.cons_cons _ (.refl _))).trans (hsub_pick [0] rfl)) ?_
        refine ⟨rfl, ?_⟩
        first
        | (rw [← hr1, hfin]; done)
        | (rw [← hr1, hfin]; rfl)
        | (rw [← hr1, sd_2s h2 hl (by simpa using hc2)]; rfl)
        | (rw [← hr1, sd_1s hc0 hnn (by simpa using hc2)]; rfl)
      · skip
        refine C_skip ?_
        refine C_seq ?_
        have hg : ltN d1[first + r]! d1[first + (2 * r + 1)]! = true := by simpa using hc2
        refine C_regionH H (by kernel_rfl) ?_
        refine H_y 0 rfl (by kernel_rfl) (by kernel_rfl) (by kernel_rfl) ((hsub (.cons _ (.refl _)))) rfl (y_move rfl) rfl ?_
        refine H_y 1 rfl (by kernel_rfl) (by kernel_rfl) (by kernel_rfl) ((hsub (.cons _ (.refl _)))) rfl (y_move rfl) rfl ?_
        refine H_y 2 rfl (by kernel_rfl) (by kernel_rfl) (by kernel_rfl) ((hsub (.cons _ (.refl _)))) rfl (y_move rfl) rfl ?_
        refine H_y 3 rfl (by kernel_rfl) (by kernel_rfl) (by kernel_rfl) ((hsub (.cons _ (.refl _)))) rfl (y_add rfl rfl (show _ = ((first + r : Nat) : Int) from by rw [wi64 (by omega) (by omega)]; omega)) rfl ?_
        refine H_y 4 rfl (by kernel_rfl) (by kernel_rfl) (by kernel_rfl) ((hsub (.cons _ (.refl _)))) rfl (y_move rfl) rfl ?_
        refine H_y 5 rfl (by kernel_rfl) (by kernel_rfl) (by kernel_rfl) ((hsub (.cons _ (.refl _)))) rfl (y_move rfl) rfl ?_
        refine H_y 6 rfl (by kernel_rfl) (by kernel_rfl) (by kernel_rfl) ((hsub (.cons _ (.refl _)))) rfl (y_move rfl) rfl ?_
        refine H_y 7 rfl (by kernel_rfl) (by kernel_rfl) (by kernel_rfl) ((hsub (.cons _ (.refl _)))) rfl (y_add rfl rfl (show _ = ((first + (2 * r + 1) : Nat) : Int) from by rw [wi64 (by omega) (by omega)]; omega)) rfl ?_
        refine H_y 8 rfl (by kernel_rfl) (by kernel_rfl) (by kernel_rfl) ((hsub (.cons _ (.refl _)))) rfl (y_move rfl) rfl ?_
        refine H_y 9 rfl (by kernel_rfl) (by kernel_rfl) (by kernel_rfl) ((hsub (.cons _ (.refl _)))) rfl (y_move rfl) rfl ?_
        refine H_y 10 rfl (by kernel_rfl) (by kernel_rfl) (by kernel_rfl) ((hsub (.cons _ (.refl _)))) rfl (y_move rfl) rfl ?_
        refine H_y 11 rfl (by kernel_rfl) (by kernel_rfl) (by kernel_rfl) ((hsub (.cons _ (.refl _)))) rfl (y_add rfl rfl (show _ = ((first + (2 * r + 1) : Nat) : Int) from by rw [wi64 (by omega) (by omega)]; omega)) rfl ?_
        refine H_y 12 rfl (by kernel_rfl) (by kernel_rfl) (by kernel_rfl) ((hsub (.cons _ (.refl _)))) rfl (y_indexS rfl rfl Try.underlying63 sz_58 (by omega) (by omega) (ix0 (first + (2 * r + 1)))) rfl ?_
        refine H_y 14 rfl (by kernel_rfl) (by kernel_rfl) (by kernel_rfl) ((hsub (.cons _ (.refl _)))) rfl (y_move rfl) rfl ?_
        refine H_y 15 rfl (by kernel_rfl) (by kernel_rfl) (by kernel_rfl) ((hsub (.cons _ (.refl _)))) rfl (y_move rfl) rfl ?_
        refine H_y 16 rfl (by kernel_rfl) (by kernel_rfl) (by kernel_rfl) ((hsub (.cons _ (.refl _)))) rfl (y_move rfl) rfl ?_
        refine H_y 17 rfl (by kernel_rfl) (by kernel_rfl) (by kernel_rfl) ((hsub (.cons _ (.refl _)))) rfl (y_add rfl rfl (show _ = ((first + r : Nat) : Int) from by rw [wi64 (by omega) (by omega)]; omega)) rfl ?_
        refine H_y 18 rfl (by kernel_rfl) (by kernel_rfl) (by kernel_rfl) ((hsub (.cons _ (.refl _)))) rfl (y_indexS rfl rfl Try.underlying63 sz_58 (by omega) (by omega) (ix0 (first + r))) rfl ?_
        refine H_two 13 19 rfl rfl (by kernel_rfl) rfl rfl ?_ ?_
        · refine op_y (y_load rfl ag_58 (sees 0 0 rfl) (us_at (by omega))) rfl ?_
          refine ⟨(hsub (.cons _ (.refl _))), ?_⟩
          refine H_one 19 rfl (by kernel_rfl) rfl (op_y (y_load rfl ag_58 (sees 0 0 rfl) (us_at (by omega))) rfl ?_)
          refine ⟨(hsub (.cons _ (.refl _))), ?_⟩
          refine H_y 20 rfl (by kernel_rfl) (by kernel_rfl) (by kernel_rfl) ((hsub (.cons _ (.refl _)))) rfl (y_indexS rfl rfl Try.underlying63 sz_58 (by omega) (by omega) (ix0 (first + r))) rfl ?_
          refine H_one 21 rfl (by kernel_rfl) rfl (op_store1 0 0 rfl rfl rfl sz_58 rfl (us_lt (by omega)) ?_)
          refine ⟨(hsub (.cons _ (.refl _))), ?_⟩
          refine H_y 22 rfl (by kernel_rfl) (by kernel_rfl) (by kernel_rfl) ((hsub (.cons _ (.refl _)))) rfl (y_indexS rfl rfl Try.underlying63 sz_58 (by omega) (by omega) (ix0 (first + (2 * r + 1)))) rfl ?_
          refine H_one 23 rfl (by kernel_rfl) rfl (op_store1 0 0 rfl rfl rfl sz_58 rfl (by rw [List.length_set]; exact us_lt (by omega)) ?_)
          refine ⟨(hsub (.cons _ (.refl _))), ?_⟩
          refine H_done (by kernel_rfl) ?_
          rw [us_swp (by omega) (by omega)]
          refine C_region ?_
          refine L_y rfl (y_move rfl) rfl ?_
          refine L_y rfl (y_assign rfl) rfl ?_
          refine L_nil ?_
          exact ⟨(Go.Sort.swp d1 (first + r) (first + (2 * r + 1)), (2 * r + 1)), ⟨by simp only; rw [swp_size]; exact hs1, by simp only; omega, by simp only; rw [← hr1, sd_1 hc0 hnn hg]⟩, by simp only; omega, ⟨rfl, rfl, rfl, rfl, trivial⟩, ((hsub (.cons_cons _ (.refl _))).trans (hsub_pick [0] rfl))⟩
        · refine op_y (y_load rfl ag_58 (sees 0 0 rfl) (us_at (by omega))) rfl ?_
          refine ⟨(hsub (.cons _ (.refl _))), ?_⟩
          refine H_one 13 rfl (by kernel_rfl) rfl (op_y (y_load rfl ag_58 (sees 0 0 rfl) (us_at (by omega))) rfl ?_)
          refine ⟨(hsub (.cons _ (.refl _))), ?_⟩
          refine H_y 20 rfl (by kernel_rfl) (by kernel_rfl) (by kernel_rfl) ((hsub (.cons _ (.refl _)))) rfl (y_indexS rfl rfl Try.underlying63 sz_58 (by omega) (by omega) (ix0 (first + r))) rfl ?_
          refine H_one 21 rfl (by kernel_rfl) rfl (op_store1 0 0 rfl rfl rfl sz_58 rfl (us_lt (by omega)) ?_)
          refine ⟨(hsub (.cons _ (.refl _))), ?_⟩
          refine H_y 22 rfl (by kernel_rfl) (by kernel_rfl) (by kernel_rfl) ((hsub (.cons _ (.refl _)))) rfl (y_indexS rfl rfl Try.underlying63 sz_58 (by omega) (by omega) (ix0 (first + (2 * r + 1)))) rfl ?_
          refine H_one 23 rfl (by kernel_rfl) rfl (op_store1 0 0 rfl rfl rfl sz_58 rfl (by rw [List.length_set]; exact us_lt (by omega)) ?_)
          refine ⟨(hsub (.cons _ (.refl _))), ?_⟩
          refine H_done (by kernel_rfl) ?_
          rw [us_swp (by omega) (by omega)]
          refine C_region ?_
          refine L_y rfl (y_move rfl) rfl ?_
          refine L_y rfl (y_assign rfl) rfl ?_
          refine L_nil ?_
          exact ⟨(Go.Sort.swp d1 (first + r) (first + (2 * r + 1)), (2 * r + 1)), ⟨by simp only; rw [swp_size]; exact hs1, by simp only; omega, by simp only; rw [← hr1, sd_1 hc0 hnn hg]⟩, by simp only; omega, ⟨rfl, rfl, rfl, rfl, trivial⟩, ((hsub (.cons_cons _ (.refl _))).trans (hsub_pick [0] rfl))⟩

set_option maxHeartbeats 1000000 in

theorem heap_u {w0 : World} {H : Hp} {sb n cap : Nat} {sp : List Value} (d : Array Nat) (hd : d.size = n) (hn : n < 4611686018427387904) (a b : Nat) (hab : a < b) (hb : b ≤ n) : FnS Try.prog w0 103 #[(.slice (some ⟨sb, 0, none⟩) n cap), .int .i64 ((a : Nat) : Int), .int .i64 ((b : Nat) : Int)] (useg 58 sb d sp :: H) (fun e H' => e = .returned (.tuple #[]) ∧ H' = useg 58 sb (Go.Sort.heapSort ltN d a b) sp :: H) := by
  refine FnS_intro (n := 56) (rs := []) (vs := [(.slice (some ⟨sb, 0, none⟩) n cap), .int .i64 ((a : Nat) : Int), .int .i64 ((b : Nat) : Int)]) Try.func103 rfl Try.ntmps103 rfl rfl ?_
  refine C_seq ?_
  refine C_region ?_
  refine L_y rfl (y_move rfl) rfl ?_
  refine L_y rfl (y_assign rfl) rfl ?_
  refine L_nil ?_
  refine C_seq ?_
  refine C_region ?_
  refine L_y rfl (y_assign rfl) rfl ?_
  refine L_nil ?_
  refine C_seq ?_
  refine C_region ?_
  refine L_y rfl (y_move rfl) rfl ?_
  refine L_y rfl (y_move rfl) rfl ?_
  refine L_y rfl (y_sub rfl rfl (show _ = ((b - a : Nat) : Int) from by rw [wi64 (by omega) (by omega)]; omega)) rfl ?_
  refine L_y rfl (y_assign rfl) rfl ?_
  refine L_nil ?_
  refine C_seq ?_
  refine C_seq ?_
  refine C_region ?_
  refine L_y rfl (y_move rfl) rfl ?_
  refine L_y rfl (y_sub rfl rfl (show _ = ((b - a - 1 : Nat) : Int) from by rw [wi64 (by omega) (by omega)]; omega)) rfl ?_
  refine L_y rfl (y_quo rfl rfl (by omega) (show _ = ((((b - a - 1) / 2 + 1) : Nat) : Int) - 1 from by rw [Int.tdiv_eq_ediv_of_nonneg (by omega), wi64 (by omega) (by omega)]; omega)) rfl ?_
  refine L_y rfl (y_assign rfl) rfl ?_
  refine L_nil ?_
  refine C_block ?_
  refine C_loop (ι := Array Nat × Nat) (fun i => [(0, (.slice (some ⟨sb, 0, none⟩) n cap)), (6, .int .i64 ((a : Nat) : Int)), (7, .int .i64 0), (8, .int .i64 ((b - a : Nat) : Int)), (9, .int .i64 ((i.2 : Int) - 1))]) (fun i => useg 58 sb i.1 sp :: H) (fun i => i.1.size = n ∧ i.2 ≤ n ∧ Go.Sort.heapBuild ltN (b - a) a i.2 i.1 = Go.Sort.heapBuild ltN (b - a) a ((b - a - 1) / 2 + 1) d) (fun i => i.2) (d, ((b - a - 1) / 2 + 1)) ⟨hd, by simp only; omega, rfl⟩ ⟨rfl, rfl, rfl, rfl, rfl, trivial⟩ ((hsub (.cons_cons _ (.refl _))).trans (hsub_pick [0] rfl)) (fun i hi => ?_)
  obtain ⟨d1, k⟩ := i
  obtain ⟨hs1, hk, hr1⟩ := hi
  try simp only at hs1 hk hr1
  try dsimp only
  refine C_seq ?_
  refine C_seq ?_
  refine C_region ?_
  refine L_y rfl (y_move rfl) rfl ?_
  refine L_y rfl (y_geq rfl rfl) rfl ?_
  refine L_nil ?_
  refine C_cond rfl (fun hc0 => ?_) (fun hc0 => ?_)
  · obtain ⟨k, rfl⟩ : ∃ m, k = m + 1 := ⟨k - 1, by have := of_decide_eq_true hc0; omega⟩
    rw [show (((k + 1 : Nat) : Int) - 1) = ((k : Nat) : Int) from by omega]
    refine C_skip ?_
    refine C_seq ?_
    refine C_block ?_
    refine C_region ?_
    refine L_y rfl (y_move rfl) rfl ?_
    refine L_y rfl (y_move rfl) rfl ?_
    refine L_y rfl (y_move rfl) rfl ?_
    refine L_y rfl (y_move rfl) rfl ?_
    refine L_op rfl (op_call rfl rfl (fun a w => Try.call113 a w) rfl ?_)
    refine (sift_u d1 (by first | exact hs1 | (rw [swp_size]; exact hs2)) hn k (b - a) a (by omega) (by omega)).mono ?_
    rintro _ _ ⟨rfl, rfl⟩
    refine ⟨_, rfl, ?_⟩
    refine L_nil ?_
    refine C_region ?_
    refine L_y rfl (y_move rfl) rfl ?_
    refine L_y rfl (y_sub rfl rfl (show _ = ((k : Nat) : Int) - 1 from by rw [wi64 (by omega) (by omega)])) rfl ?_
    refine L_y rfl (y_assign rfl) rfl ?_
    refine L_nil ?_
    exact ⟨(Go.Sort.siftDown ltN (b - a) a k d1, k), ⟨by simp only; rw [sd_size _ _ _ _ _ (Nat.le_refl _)]; exact hs1, by simp only; omega, by simp only; rw [← hr1]; rfl⟩, by simp only; omega, ⟨rfl, rfl, rfl, rfl, rfl, trivial⟩, ((hsub (.cons_cons _ (.refl _))).trans (hsub_pick [0] rfl))⟩
  · obtain rfl : k = 0 := by have := of_decide_eq_false hc0; omega
    refine C_exit ?_
    refine C_seq ?_
    refine C_region ?_
    refine L_y rfl (y_move rfl) rfl ?_
    refine L_y rfl (y_sub rfl rfl (show _ = (((b - a : Nat) : Int) - 1) from by rw [wi64 (by omega) (by omega)])) rfl ?_
    refine L_y rfl (y_assign rfl) rfl ?_
    refine L_nil ?_
    refine C_block ?_
    refine C_loop (ι := Array Nat × Nat) (fun i => [(0, (.slice (some ⟨sb, 0, none⟩) n cap)), (6, .int .i64 ((a : Nat) : Int)), (7, .int .i64 0), (8, .int .i64 ((b - a : Nat) : Int)), (10, .int .i64 ((i.2 : Int) - 1))]) (fun i => useg 58 sb i.1 sp :: H) (fun i => i.1.size = n ∧ i.2 ≤ b - a ∧ Go.Sort.heapPop ltN a i.2 i.1 = Go.Sort.heapSort ltN d a b) (fun i => i.2) (d1, b - a) ⟨hs1, Nat.le_refl _, by simp only; unfold Go.Sort.heapSort; rw [← hr1]; rfl⟩ ⟨rfl, rfl, rfl, rfl, rfl, trivial⟩ ((hsub (.cons_cons _ (.refl _))).trans (hsub_pick [0] rfl)) (fun i hi => ?_)
    obtain ⟨d2, k⟩ := i
    obtain ⟨hs2, hk, hr2⟩ := hi
    try simp only at hs2 hk hr2
    try dsimp only
    refine C_seq ?_
    refine C_seq ?_
    refine C_region ?_
    refine L_y rfl (y_move rfl) rfl ?_
    refine L_y rfl (y_geq rfl rfl) rfl ?_
    refine L_nil ?_
    refine C_cond rfl (fun hc1 => ?_) (fun hc1 => ?_)
    · obtain ⟨k, rfl⟩ : ∃ m, k = m + 1 := ⟨k - 1, by have := of_decide_eq_true hc1; omega⟩
      rw [show (((k + 1 : Nat) : Int) - 1) = ((k : Nat) : Int) from by omega]
      refine C_skip ?_
      refine C_seq ?_
      refine C_block ?_
      refine C_seq ?_
      refine C_regionH H (by kernel_rfl) ?_
      refine H_y 0 rfl (by kernel_rfl) (by kernel_rfl) (by kernel_rfl) ((hsub (.cons _ (.refl _)))) rfl (y_move rfl) rfl ?_
      refine H_y 1 rfl (by kernel_rfl) (by kernel_rfl) (by kernel_rfl) ((hsub (.cons _ (.refl _)))) rfl (y_move rfl) rfl ?_
      refine H_y 2 rfl (by kernel_rfl) (by kernel_rfl) (by kernel_rfl) ((hsub (.cons _ (.refl _)))) rfl (y_move rfl) rfl ?_
      refine H_y 3 rfl (by kernel_rfl) (by kernel_rfl) (by kernel_rfl) ((hsub (.cons _ (.refl _)))) rfl (y_move rfl) rfl ?_
      refine H_y 4 rfl (by kernel_rfl) (by kernel_rfl) (by kernel_rfl) ((hsub (.cons _ (.refl _)))) rfl (y_move rfl) rfl ?_
      refine H_y 5 rfl (by kernel_rfl) (by kernel_rfl) (by kernel_rfl) ((hsub (.cons _ (.refl _)))) rfl (y_add rfl rfl (show _ = ((a + k : Nat) : Int) from by rw [wi64 (by omega) (by omega)]; omega)) rfl ?_
      refine H_y 6 rfl (by kernel_rfl) (by kernel_rfl) (by kernel_rfl) ((hsub (.cons _ (.refl _)))) rfl (y_move rfl) rfl ?_
      refine H_y 7 rfl (by kernel_rfl) (by kernel_rfl) (by kernel_rfl) ((hsub (.cons _ (.refl _)))) rfl (y_move rfl) rfl ?_
      refine H_y 8 rfl (by kernel_rfl) (by kernel_rfl) (by kernel_rfl) ((hsub (.cons _ (.refl _)))) rfl (y_move rfl) rfl ?_
      refine H_y 9 rfl (by kernel_rfl) (by kernel_rfl) (by kernel_rfl) ((hsub (.cons _ (.refl _)))) rfl (y_add rfl rfl (show _ = ((a + k : Nat) : Int) from by rw [wi64 (by omega) (by omega)]; omega)) rfl ?_
      refine H_y 10 rfl (by kernel_rfl) (by kernel_rfl) (by kernel_rfl) ((hsub (.cons _ (.refl _)))) rfl (y_indexS rfl rfl Try.underlying63 sz_58 (by omega) (by omega) (ix0 ((a + k)))) rfl ?_
      refine H_y 12 rfl (by kernel_rfl) (by kernel_rfl) (by kernel_rfl) ((hsub (.cons _ (.refl _)))) rfl (y_move rfl) rfl ?_
      refine H_y 13 rfl (by kernel_rfl) (by kernel_rfl) (by kernel_rfl) ((hsub (.cons _ (.refl _)))) rfl (y_move rfl) rfl ?_
      refine H_y 14 rfl (by kernel_rfl) (by kernel_rfl) (by kernel_rfl) ((hsub (.cons _ (.refl _)))) rfl (y_indexS rfl rfl Try.underlying63 sz_58 (by omega) (by omega) (ix0 (a))) rfl ?_
      refine H_two 11 15 rfl rfl (by kernel_rfl) rfl rfl ?_ ?_
      · refine op_y (y_load rfl ag_58 (sees 0 0 rfl) (us_at (by omega))) rfl ?_
        refine ⟨(hsub (.cons _ (.refl _))), ?_⟩
        refine H_one 15 rfl (by kernel_rfl) rfl (op_y (y_load rfl ag_58 (sees 0 0 rfl) (us_at (by omega))) rfl ?_)
        refine ⟨(hsub (.cons _ (.refl _))), ?_⟩
        refine H_y 16 rfl (by kernel_rfl) (by kernel_rfl) (by kernel_rfl) ((hsub (.cons _ (.refl _)))) rfl (y_indexS rfl rfl Try.underlying63 sz_58 (by omega) (by omega) (ix0 (a))) rfl ?_
        refine H_one 17 rfl (by kernel_rfl) rfl (op_store1 0 0 rfl rfl rfl sz_58 rfl (us_lt (by omega)) ?_)
        refine ⟨(hsub (.cons _ (.refl _))), ?_⟩
        refine H_y 18 rfl (by kernel_rfl) (by kernel_rfl) (by kernel_rfl) ((hsub (.cons _ (.refl _)))) rfl (y_indexS rfl rfl Try.underlying63 sz_58 (by omega) (by omega) (ix0 ((a + k)))) rfl ?_
        refine H_one 19 rfl (by kernel_rfl) rfl (op_store1 0 0 rfl rfl rfl sz_58 rfl (by rw [List.length_set]; exact us_lt (by omega)) ?_)
        refine ⟨(hsub (.cons _ (.refl _))), ?_⟩
        refine H_done (by kernel_rfl) ?_
        rw [us_swp (by omega) (by omega)]
        refine C_region ?_
        refine L_y rfl (y_move rfl) rfl ?_
        refine L_y rfl (y_move rfl) rfl ?_
        refine L_y rfl (y_move rfl) rfl ?_
        refine L_y rfl (y_move rfl) rfl ?_
        refine L_op rfl (op_call rfl rfl (fun a w => Try.call113 a w) rfl ?_)
        refine (sift_u (Go.Sort.swp d2 a (a + k)) (by first | exact hs1 | (rw [swp_size]; exact hs2)) hn 0 k a (by omega) (by omega)).mono ?_
        rintro _ _ ⟨rfl, rfl⟩
        refine ⟨_, rfl, ?_⟩
        refine L_nil ?_
        refine C_region ?_
        refine L_y rfl (y_move rfl) rfl ?_
        refine L_y rfl (y_sub rfl rfl (show _ = ((k : Nat) : Int) - 1 from by rw [wi64 (by omega) (by omega)])) rfl ?_
        refine L_y rfl (y_assign rfl) rfl ?_
        refine L_nil ?_
        exact ⟨(Go.Sort.siftDown ltN k a 0 (Go.Sort.swp d2 a (a + k)), k), ⟨by simp only; rw [sd_size _ _ _ _ _ (Nat.le_refl _), swp_size]; exact hs2, by simp only; omega, by simp only; rw [← hr2]; rfl⟩, by simp only; omega, ⟨rfl, rfl, rfl, rfl, rfl, trivial⟩, ((hsub (.cons_cons _ (.refl _))).trans (hsub_pick [0] rfl))⟩
      · refine op_y (y_load rfl ag_58 (sees 0 0 rfl) (us_at (by omega))) rfl ?_
        refine ⟨(hsub (.cons _ (.refl _))), ?_⟩
        refine H_one 11 rfl (by kernel_rfl) rfl (op_y (y_load rfl ag_58 (sees 0 0 rfl) (us_at (by omega))) rfl ?_)
        refine ⟨(hsub (.cons _ (.refl _))), ?_⟩
        refine H_y 16 rfl (by kernel_rfl) (by kernel_rfl) (by kernel_rfl) ((hsub (.cons _ (.refl _)))) rfl (y_indexS rfl rfl Try.underlying63 sz_58 (by omega) (by omega) (ix0 (a))) rfl ?_
        refine H_one 17 rfl (by kernel_rfl) rfl (op_store1 0 0 rfl rfl rfl sz_58 rfl (us_lt (by omega)) ?_)
        refine ⟨(hsub (.cons _ (.refl _))), ?_⟩
        refine H_y 18 rfl (by kernel_rfl) (by kernel_rfl) (by kernel_rfl) ((hsub (.cons _ (.refl _)))) rfl (y_indexS rfl rfl Try.underlying63 sz_58 (by omega) (by omega) (ix0 ((a + k)))) rfl ?_
        refine H_one 19 rfl (by kernel_rfl) rfl (op_store1 0 0 rfl rfl rfl sz_58 rfl (by rw [List.length_set]; exact us_lt (by omega)) ?_)
        refine ⟨(hsub (.cons _ (.refl _))), ?_⟩
        refine H_done (by kernel_rfl) ?_
        rw [us_swp (by omega) (by omega)]
        refine C_region ?_
        refine L_y rfl (y_move rfl) rfl ?_
        refine L_y rfl (y_move rfl) rfl ?_
        refine L_y rfl (y_move rfl) rfl ?_
        refine L_y rfl (y_move rfl) rfl ?_
        refine L_op rfl (op_call rfl rfl (fun a w => Try.call113 a w) rfl ?_)
        refine (sift_u (Go.Sort.swp d2 a (a + k)) (by first | exact hs1 | (rw [swp_size]; exact hs2)) hn 0 k a (by omega) (by omega)).mono ?_
        rintro _ _ ⟨rfl, rfl⟩
        refine ⟨_, rfl, ?_⟩
        refine L_nil ?_
        refine C_region ?_
        refine L_y rfl (y_move rfl) rfl ?_
        refine L_y rfl (y_sub rfl rfl (show _ = ((k : Nat) : Int) - 1 from by rw [wi64 (by omega) (by omega)])) rfl ?_
        refine L_y rfl (y_assign rfl) rfl ?_
        refine L_nil ?_
        exact ⟨(Go.Sort.siftDown ltN k a 0 (Go.Sort.swp d2 a (a + k)), k), ⟨by simp only; rw [sd_size _ _ _ _ _ (Nat.le_refl _), swp_size]; exact hs2, by simp only; omega, by simp only; rw [← hr2]; rfl⟩, by simp only; omega, ⟨rfl, rfl, rfl, rfl, rfl, trivial⟩, ((hsub (.cons_cons _ (.refl _))).trans (hsub_pick [0] rfl))⟩
    · obtain rfl : k = 0 := by have := of_decide_eq_false hc1; omega
      refine C_exit ?_
      refine B_end rv_nil ((hsub (.cons_cons _ (.refl _))).trans (hsub_pick [0] rfl)) ?_
      refine ⟨rfl, ?_⟩
      rw [← hr2]
      rfl

end Go.Proofs.Ytaeooiogjhkjfaa


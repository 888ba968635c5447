/- Own work: texts E6W, A8, K3W, K4W, Cl, L2W, Fh, E7W, Rn, Ol, Hd, P2W, Rw, Rg, Rc, Re, put together. -/
import Derived.Test.YtighbhplfjjgpaaProg
import Derived.ShutString
import Derived.OpenShut
import Derived.Carry
import Derived.Deep.Slices
import Derived.Test.YtighbhplfjjgpaaMCompactEmptiesc
/- walks (own work; the walks' lines by a program of this repo). -/
set_option linter.unusedVariables false
set_option linter.unusedSimpArgs false
set_option maxRecDepth 20000
namespace Go.Proofs.Ytighbhplfjjgpaa
open Go.Sl
attribute [local irreducible] BodyQ WpC WpL WpS WpH OpW FnS


theorem put18_0f {w0 : World} {H : Hp} {l : Xl} {g : Option SlG} (hok : slOk 2 g l.length (lcs l)) (hl : l.length < 1000000) (segs size : Int) (n : Nat) (a : Int) (h0 : n = 0) : FnS Try.prog w0 39 #[slV g l.length, .int .i64 segs, .int .i64 size, .int .u64 (n : Int), .int .i64 a, .bool false] (slSeg 128 g (lcs l) :: H) (fun e H' => ∃ g2, slOk 2 g2 (xput segs size l n a false).1.length (lcs (xput segs size l n a false).1) ∧ e = .returned (.tuple #[slV g2 (xput segs size l n a false).1.length, .int .i64 (xput segs size l n a false).2]) ∧ H' = slSeg 128 g2 (lcs (xput segs size l n a false).1) :: H) := by
  refine FnS_intro (n := 86) (rs := [.tmp 12, .tmp 13]) (vs := [slV g l.length, .int .i64 segs, .int .i64 size, .int .u64 (n : Int), .int .i64 a, .bool false]) Try.func39 rfl Try.ntmps39 rfl rfl ?_
  refine C_seq ?_
  refine C_region ?_
  refine L_y rfl (y_assign rfl) rfl ?_
  refine L_y rfl (y_assign rfl) rfl ?_
  refine L_nil ?_
  refine C_seq ?_
  refine C_seq ?_
  refine C_region ?_
  refine L_y rfl (y_move rfl) rfl ?_
  refine L_y rfl (y_eqi rfl rfl) rfl ?_
  refine L_nil ?_
  refine C_cond rfl (fun hc0 => ?_) (fun hc0 => absurd hc0 (by simp [h0]))
  refine C_seq ?_
  refine C_region ?_
  refine L_y rfl (y_move rfl) rfl ?_
  refine L_y rfl (y_assign rfl) rfl ?_
  refine L_y rfl (y_assign rfl) rfl ?_
  refine L_nil ?_
  refine C_ret ?_
  refine B_ret (rv_tmp rfl (rv_tmp rfl rv_nil)) ((hsub (.cons_cons _ (.refl _))).trans (hsub_pick [0] rfl)) ?_
  have e4 : xput segs size l n a false = (l, 1) := by simp [xput, *]
  rw [e4]
  exact ⟨g, hok, rfl, rfl⟩

theorem put18_rf {w0 : World} {H : Hp} {l : Xl} {g : Option SlG} (hok : slOk 2 g l.length (lcs l)) (hl : l.length < 1000000) (segs size : Int) (n : Nat) (a : Int) (h0 : n ≠ 0) (ho : ofS segs size a = none) : FnS Try.prog w0 39 #[slV g l.length, .int .i64 segs, .int .i64 size, .int .u64 (n : Int), .int .i64 a, .bool false] (slSeg 128 g (lcs l) :: H) (fun e H' => ∃ g2, slOk 2 g2 (xput segs size l n a false).1.length (lcs (xput segs size l n a false).1) ∧ e = .returned (.tuple #[slV g2 (xput segs size l n a false).1.length, .int .i64 (xput segs size l n a false).2]) ∧ H' = slSeg 128 g2 (lcs (xput segs size l n a false).1) :: H) := by
  refine FnS_intro (n := 86) (rs := [.tmp 12, .tmp 13]) (vs := [slV g l.length, .int .i64 segs, .int .i64 size, .int .u64 (n : Int), .int .i64 a, .bool false]) Try.func39 rfl Try.ntmps39 rfl rfl ?_
  refine C_seq ?_
  refine C_region ?_
  refine L_y rfl (y_assign rfl) rfl ?_
  refine L_y rfl (y_assign rfl) rfl ?_
  refine L_nil ?_
  refine C_seq ?_
  refine C_seq ?_
  refine C_region ?_
  refine L_y rfl (y_move rfl) rfl ?_
  refine L_y rfl (y_eqi rfl rfl) rfl ?_
  refine L_nil ?_
  refine C_cond rfl (fun hc0 => absurd hc0 (by simp <;> omega)) (fun hc0 => ?_)
  refine C_skip ?_
  refine C_seq ?_
  refine C_seq ?_
  refine C_region ?_
  refine L_y rfl (y_move rfl) rfl ?_
  refine L_y rfl (y_move rfl) rfl ?_
  refine L_y rfl (y_move rfl) rfl ?_
  refine L_op rfl (op_call rfl rfl (fun a w => Try.call59 a w) rfl ?_)
  refine (seg18_s segs size a).mono ?_
  rintro _ _ ⟨rfl, e⟩
  obtain rfl := e.symm
  clear e
  rw [seg18_no ho]
  refine ⟨_, rfl, ?_⟩
  refine L_y rfl (y_lss rfl rfl) rfl ?_
  refine L_nil ?_
  refine C_cond_t rfl ?_
  refine C_seq ?_
  refine C_region ?_
  refine L_y rfl (y_move rfl) rfl ?_
  refine L_y rfl (y_assign rfl) rfl ?_
  refine L_y rfl (y_assign rfl) rfl ?_
  refine L_nil ?_
  refine C_ret ?_
  refine B_ret (rv_tmp rfl (rv_tmp rfl rv_nil)) ((hsub (.cons_cons _ (.refl _))).trans (hsub_pick [0] rfl)) ?_
  have e4 : xput segs size l n a false = (l, 2) := by simp [xput, *]
  rw [e4]
  exact ⟨g, hok, rfl, rfl⟩

theorem put18_p5 {w0 : World} {H : Hp} {l : Xl} {g : Option SlG} (hok : slOk 2 g l.length (lcs l)) (hl : l.length < 1000000) (segs size : Int) (n : Nat) (a : Int) (h0 : n ≠ 0) {s : Int} (ho : ofS segs size a = some s) {q : Int} {k : Nat} (hf : xfind l n = some q) (hk : fnd l n = (k : Int)) : FnS Try.prog w0 39 #[slV g l.length, .int .i64 segs, .int .i64 size, .int .u64 (n : Int), .int .i64 a, .bool false] (slSeg 128 g (lcs l) :: H) (fun e H' => ∃ g2, slOk 2 g2 (xput segs size l n a false).1.length (lcs (xput segs size l n a false).1) ∧ e = .returned (.tuple #[slV g2 (xput segs size l n a false).1.length, .int .i64 (xput segs size l n a false).2]) ∧ H' = slSeg 128 g2 (lcs (xput segs size l n a false).1) :: H) := by
  have hs0 := (ofS_spec ho).2.2.2.2.1
  refine FnS_intro (n := 86) (rs := [.tmp 12, .tmp 13]) (vs := [slV g l.length, .int .i64 segs, .int .i64 size, .int .u64 (n : Int), .int .i64 a, .bool false]) Try.func39 rfl Try.ntmps39 rfl rfl ?_
  refine C_seq ?_
  refine C_region ?_
  refine L_y rfl (y_assign rfl) rfl ?_
  refine L_y rfl (y_assign rfl) rfl ?_
  refine L_nil ?_
  refine C_seq ?_
  refine C_seq ?_
  refine C_region ?_
  refine L_y rfl (y_move rfl) rfl ?_
  refine L_y rfl (y_eqi rfl rfl) rfl ?_
  refine L_nil ?_
  refine C_cond rfl (fun hc0 => absurd hc0 (by simp <;> omega)) (fun hc0 => ?_)
  refine C_skip ?_
  refine C_seq ?_
  refine C_seq ?_
  refine C_region ?_
  refine L_y rfl (y_move rfl) rfl ?_
  refine L_y rfl (y_move rfl) rfl ?_
  refine L_y rfl (y_move rfl) rfl ?_
  refine L_op rfl (op_call rfl rfl (fun a w => Try.call59 a w) rfl ?_)
  refine (seg18_s segs size a).mono ?_
  rintro _ _ ⟨rfl, e⟩
  obtain rfl := e.symm
  clear e
  rw [show seg18 segs size a = s from by unfold seg18; rw [ho]]
  refine ⟨_, rfl, ?_⟩
  refine L_y rfl (y_lss rfl rfl) rfl ?_
  refine L_nil ?_
  refine C_cond rfl (fun hc1 => absurd hc1 (by simp <;> omega)) (fun hc1 => ?_)
  refine C_skip ?_
  refine C_seq ?_
  refine C_region ?_
  refine L_y rfl (y_move rfl) rfl ?_
  refine L_y rfl (y_move rfl) rfl ?_
  refine L_op rfl (op_call rfl rfl (fun a w => Try.call60 a w) rfl ?_)
  refine (find18_s (g := g) hok hl n).mono ?_
  rintro _ _ ⟨rfl, rfl⟩
  rw [hk]
  refine ⟨_, rfl, ?_⟩
  refine L_y rfl (y_assign rfl) rfl ?_
  refine L_nil ?_
  refine C_seq ?_
  refine C_seq ?_
  refine C_region ?_
  refine L_y rfl (y_move rfl) rfl ?_
  refine L_y rfl (y_move rfl) rfl ?_
  refine L_skip rfl rfl ?_
  refine L_skip rfl rfl ?_
  refine L_y rfl (y_pick_f rfl rfl) rfl ?_
  refine L_nil ?_
  refine C_cond_f rfl ?_
  refine C_skip ?_
  refine C_seq ?_
  refine C_seq ?_
  refine C_region ?_
  refine L_y rfl (y_move rfl) rfl ?_
  refine L_y rfl (y_not rfl) rfl ?_
  refine L_y rfl (y_move rfl) rfl ?_
  refine L_y rfl (y_move rfl) rfl ?_
  refine L_y rfl (y_geq rfl rfl) rfl ?_
  refine L_y rfl (y_pick_t rfl rfl) rfl ?_
  refine L_nil ?_
  refine C_cond rfl (fun hc3 => ?_) (fun hc3 => absurd hc3 (by simp))
  refine C_seq ?_
  refine C_region ?_
  refine L_y rfl (y_move rfl) rfl ?_
  refine L_y rfl (y_assign rfl) rfl ?_
  refine L_y rfl (y_assign rfl) rfl ?_
  refine L_nil ?_
  refine C_ret ?_
  refine B_ret (rv_tmp rfl (rv_tmp rfl rv_nil)) ((hsub (.cons_cons _ (.refl _))).trans (hsub_pick [0] rfl)) ?_
  have e4 : xput segs size l n a false = (l, 5) := by simp [xput, *]
  rw [e4]
  exact ⟨g, hok, rfl, rfl⟩

set_option maxHeartbeats 1000000 in

theorem put18_py {w0 : World} {H : Hp} {l : Xl} {g : Option SlG} (hok : slOk 2 g l.length (lcs l)) (hl : l.length < 1000000) (segs size : Int) (n : Nat) (a : Int) (h0 : n ≠ 0) {s : Int} (ho : ofS segs size a = some s) (hf : xfind l n = none) : FnS Try.prog w0 39 #[slV g l.length, .int .i64 segs, .int .i64 size, .int .u64 (n : Int), .int .i64 a, .bool false] (slSeg 128 g (lcs l) :: H) (fun e H' => ∃ g2, slOk 2 g2 (xput segs size l n a false).1.length (lcs (xput segs size l n a false).1) ∧ e = .returned (.tuple #[slV g2 (xput segs size l n a false).1.length, .int .i64 (xput segs size l n a false).2]) ∧ H' = slSeg 128 g2 (lcs (xput segs size l n a false).1) :: H) := by
  have hs0 := (ofS_spec ho).2.2.2.2.1
  refine FnS_intro (n := 86) (rs := [.tmp 12, .tmp 13]) (vs := [slV g l.length, .int .i64 segs, .int .i64 size, .int .u64 (n : Int), .int .i64 a, .bool false]) Try.func39 rfl Try.ntmps39 rfl rfl ?_
  refine C_seq ?_
  refine C_region ?_
  refine L_y rfl (y_assign rfl) rfl ?_
  refine L_y rfl (y_assign rfl) rfl ?_
  refine L_nil ?_
  refine C_seq ?_
  refine C_seq ?_
  refine C_region ?_
  refine L_y rfl (y_move rfl) rfl ?_
  refine L_y rfl (y_eqi rfl rfl) rfl ?_
  refine L_nil ?_
  refine C_cond rfl (fun hc0 => absurd hc0 (by simp <;> omega)) (fun hc0 => ?_)
  refine C_skip ?_
  refine C_seq ?_
  refine C_seq ?_
  refine C_region ?_
  refine L_y rfl (y_move rfl) rfl ?_
  refine L_y rfl (y_move rfl) rfl ?_
  refine L_y rfl (y_move rfl) rfl ?_
  refine L_op rfl (op_call rfl rfl (fun a w => Try.call59 a w) rfl ?_)
  refine (seg18_s segs size a).mono ?_
  rintro _ _ ⟨rfl, e⟩
  obtain rfl := e.symm
  clear e
  rw [show seg18 segs size a = s from by unfold seg18; rw [ho]]
  refine ⟨_, rfl, ?_⟩
  refine L_y rfl (y_lss rfl rfl) rfl ?_
  refine L_nil ?_
  refine C_cond rfl (fun hc1 => absurd hc1 (by simp <;> omega)) (fun hc1 => ?_)
  refine C_skip ?_
  refine C_seq ?_
  refine C_region ?_
  refine L_y rfl (y_move rfl) rfl ?_
  refine L_y rfl (y_move rfl) rfl ?_
  refine L_op rfl (op_call rfl rfl (fun a w => Try.call60 a w) rfl ?_)
  refine (find18_s (g := g) hok hl n).mono ?_
  rintro _ _ ⟨rfl, rfl⟩
  rw [fnd_none hf]
  refine ⟨_, rfl, ?_⟩
  refine L_y rfl (y_assign rfl) rfl ?_
  refine L_nil ?_
  refine C_seq ?_
  refine C_seq ?_
  refine C_region ?_
  refine L_y rfl (y_move rfl) rfl ?_
  refine L_y rfl (y_move rfl) rfl ?_
  refine L_skip rfl rfl ?_
  refine L_skip rfl rfl ?_
  refine L_y rfl (y_pick_f rfl rfl) rfl ?_
  refine L_nil ?_
  refine C_cond_f rfl ?_
  refine C_skip ?_
  refine C_seq ?_
  refine C_seq ?_
  refine C_region ?_
  refine L_y rfl (y_move rfl) rfl ?_
  refine L_y rfl (y_not rfl) rfl ?_
  refine L_y rfl (y_move rfl) rfl ?_
  refine L_y rfl (y_move rfl) rfl ?_
  refine L_y rfl (y_geq rfl rfl) rfl ?_
  refine L_y rfl (y_pick_t rfl rfl) rfl ?_
  refine L_nil ?_
  refine C_cond_f rfl ?_
  refine C_skip ?_
  refine C_seq ?_
  refine C_seq ?_
  refine C_region ?_
  refine L_y rfl (y_move rfl) rfl ?_
  refine L_nil ?_
  refine C_cond_f rfl ?_
  refine C_skip ?_
  refine C_seq ?_
  refine C_region ?_
  refine L_y rfl (y_assign rfl) rfl ?_
  refine L_nil ?_
  refine C_seq ?_
  refine C_region ?_
  refine L_y rfl (y_assign rfl) rfl ?_
  refine L_nil ?_
  refine C_seq ?_
  refine C_seq ?_
  refine C_region ?_
  refine L_y rfl (y_assign rfl) rfl ?_
  refine L_nil ?_
  refine C_block ?_
  refine C_loop (ι := Nat × Option SlG) (fun i => [(0, slV g l.length), (3, .int .u64 (n : Int)), (4, .int .i64 a), (15, slV i.2 (outI l n a i.1).length), (16, .bool (big l n i.1)), (17, .int .i64 (i.1 : Int))]) (fun i => slSeg 128 i.2 (lcs (outI l n a i.1)) :: slSeg 128 g (lcs l) :: H) (fun i => i.1 ≤ l.length ∧ slOk 2 i.2 (outI l n a i.1).length (lcs (outI l n a i.1))) (fun i => l.length - i.1) (0, none) ⟨Nat.zero_le _, by rw [outI_0]; exact ⟨rfl, rfl⟩⟩ (by rw [outI_0]; exact ⟨rfl, rfl, rfl, rfl, rfl, rfl, trivial⟩) (by rw [outI_0]; exact hsub_flat rfl) (fun i hi => ?_)
  obtain ⟨i, g3⟩ := i
  obtain ⟨hi, hok3⟩ := hi
  try simp only at hi hok3
  try dsimp only
  refine C_seq ?_
  refine C_seq ?_
  refine C_region ?_
  refine L_y rfl (y_move rfl) rfl ?_
  refine L_y rfl (y_move rfl) rfl ?_
  refine L_y rfl (y_lenV hok rfl rfl Try.underlying30) rfl ?_
  refine L_y rfl (y_lss rfl rfl) rfl ?_
  refine L_nil ?_
  refine C_cond rfl (fun hc5 => ?_) (fun hc5 => ?_)
  · replace hc5 : i < l.length := by have := of_decide_eq_true hc5; omega
    obtain ⟨x, hx⟩ : ∃ x, l[i]? = some x := ⟨_, List.getElem?_eq_getElem hc5⟩
    cases g with
    | none => exact absurd (show l.length = 0 from hok.2) (by omega)
    | some g => ?_
    refine C_skip ?_
    refine C_seq ?_
    refine C_block ?_
    refine C_seq ?_
    refine C_seq ?_
    refine C_region ?_
    refine L_y rfl (y_move rfl) rfl ?_
    refine L_y rfl (y_not rfl) rfl ?_
    refine L_y rfl (y_move rfl) rfl ?_
    refine L_case 55 rfl (fun hg17_3 => ?_) (fun hg17_3 => ?_)
    · have hb : big l n i = false := by simpa using hg17_3
      refine L_y rfl (y_move rfl) rfl ?_
      refine L_y rfl (y_move rfl) rfl ?_
      refine L_y rfl (y_indexS rfl rfl Try.underlying30 sz_128 (by omega) (by omega) (show _ = i * 2 from by simp)) rfl ?_
      refine L_y rfl (y_fieldAddr rfl fl_128_0) rfl ?_
      refine L_y rfl (y_load rfl ag_48 (sees 1 0 rfl) (lcs_at hx).1) rfl ?_
      refine L_y rfl (y_move rfl) rfl ?_
      refine L_y rfl (y_gtr rfl rfl) rfl ?_
      refine L_y rfl (y_pick_t rfl rfl) rfl ?_
      refine L_nil ?_
      refine C_cond rfl (fun hc6 => ?_) (fun hc6 => ?_)
      · have hlt : n < x.1 := by have := of_decide_eq_true hc6; omega
        refine C_seq ?_
        refine C_region ?_
        refine L_y rfl (y_move rfl) rfl ?_
        refine L_y rfl (y_move rfl) rfl ?_
        refine L_y rfl (y_move rfl) rfl ?_
        refine L_y rfl (y_build (vs := [(0, _), (1, _)]) (l := [.int .u64 (n : Int), .int .i64 a]) rfl pl_128 zl_128 (fill_cons (off := 0) (m := 1) (vs := [_]) rfl rfl rfl (Nat.le_of_ble_eq_true rfl) (fill_cons (off := 1) (m := 1) (vs := [_]) rfl rfl rfl (Nat.le_of_ble_eq_true rfl) rfl))) rfl ?_
        refine L_op rfl (op_buildSlice (vs := [(0, _)]) rfl Try.underlying30 sz_128 zl_128 rfl (by decide) (fill_one rfl rfl rfl) rfl (fun B1 => ?_))
        refine L_op rfl (op_append (gs := g3) (len := ((outI l n a i)).length) (m := 1) (xs := lcs ((outI l n a i))) (vs := lcs [(n, a)]) 1 rfl rfl rfl hok3 (src_slice (sees 0 0 rfl) (Nat.le_of_ble_eq_true rfl) rfl) rfl (lcs_one _) Try.underlying30 ni_30 sz_128 by_128 (by decide) zl_128 rfl (by have := out_len (n := n) (a := a) hi; first | omega | (simp only [List.length_append, List.length_cons, List.length_nil]; omega)) rfl (fun g4 hg4 => ?_))
        rw [← lcs_append, show ((outI l n a i)).length + 1 = ((outI l n a i) ++ [(n, a)]).length from by simp] at hg4 ⊢
        refine L_y rfl (y_assign rfl) rfl ?_
        refine L_nil ?_
        refine C_region ?_
        refine L_y rfl (y_assign rfl) rfl ?_
        refine L_nil ?_
        refine C_region ?_
        refine L_y rfl (y_move rfl) rfl ?_
        refine L_y rfl (y_move rfl) rfl ?_
        refine L_y rfl (y_move rfl) rfl ?_
        refine L_y rfl (y_indexS rfl rfl Try.underlying30 sz_128 (by omega) (by omega) (show _ = i * 2 from by simp)) rfl ?_
        refine L_y rfl (y_loadA rfl ag_128 sz_128 (sees 2 0 rfl) (by rw [List.length_append, lcs_len]; omega) (lcs_at hx).2.2) rfl ?_
        refine L_op rfl (op_buildSlice (vs := [(0, _)]) rfl Try.underlying30 sz_128 zl_128 rfl (by decide) (fill_one rfl rfl rfl) rfl (fun B2 => ?_))
        refine L_op rfl (op_append (gs := g4) (len := ((outI l n a i) ++ [(n, a)]).length) (m := 1) (xs := lcs ((outI l n a i) ++ [(n, a)])) (vs := lcs [x]) 2 rfl rfl rfl hg4 (src_slice (sees 0 0 rfl) (Nat.le_of_ble_eq_true rfl) rfl) rfl (lcs_one _) Try.underlying30 ni_30 sz_128 by_128 (by decide) zl_128 rfl (by have := out_len (n := n) (a := a) hi; first | omega | (simp only [List.length_append, List.length_cons, List.length_nil]; omega)) rfl (fun g5 hg5 => ?_))
        rw [← lcs_append, show ((outI l n a i) ++ [(n, a)]).length + 1 = ((outI l n a i) ++ [(n, a)] ++ [x]).length from by simp] at hg5 ⊢
        refine L_y rfl (y_assign rfl) rfl ?_
        refine L_nil ?_
        refine C_region ?_
        refine L_y rfl (y_move rfl) rfl ?_
        refine L_y rfl (y_add rfl rfl (show _ = ((i + 1 : Nat) : Int) from by rw [wi64 (by omega) (by omega)]; omega)) rfl ?_
        refine L_y rfl (y_assign rfl) rfl ?_
        refine L_nil ?_
        have e1 : big l n (i + 1) = true := by rw [big_next hx, decide_eq_true hlt, Bool.or_true]
        have e2 := out_first (a := a) hb hx hlt
        refine ⟨(i + 1, g5), ⟨by simp only; omega, ?_⟩, by simp only; omega, ?_⟩ <;> try simp only
        · rw [e2]; exact hg5
        · rw [e1, e2]
          exact ⟨⟨rfl, rfl, rfl, rfl, rfl, rfl, trivial⟩, ((hsub (.cons_cons _ (.cons_cons _ (.cons _ (.cons _ (.refl _)))))).trans (hsub_pick [2, 2] rfl))⟩
      · have hlt : ¬ n < x.1 := by have := of_decide_eq_false hc6; omega
        refine C_skip ?_
        refine C_region ?_
        refine L_y rfl (y_move rfl) rfl ?_
        refine L_y rfl (y_move rfl) rfl ?_
        refine L_y rfl (y_move rfl) rfl ?_
        refine L_y rfl (y_indexS rfl rfl Try.underlying30 sz_128 (by omega) (by omega) (show _ = i * 2 from by simp)) rfl ?_
        refine L_y rfl (y_loadA rfl ag_128 sz_128 (sees 1 0 rfl) (by rw [List.length_append, lcs_len]; omega) (lcs_at hx).2.2) rfl ?_
        refine L_op rfl (op_buildSlice (vs := [(0, _)]) rfl Try.underlying30 sz_128 zl_128 rfl (by decide) (fill_one rfl rfl rfl) rfl (fun B3 => ?_))
        refine L_op rfl (op_append (gs := g3) (len := ((outI l n a i)).length) (m := 1) (xs := lcs ((outI l n a i))) (vs := lcs [x]) 1 rfl rfl rfl hok3 (src_slice (sees 0 0 rfl) (Nat.le_of_ble_eq_true rfl) rfl) rfl (lcs_one _) Try.underlying30 ni_30 sz_128 by_128 (by decide) zl_128 rfl (by have := out_len (n := n) (a := a) hi; first | omega | (simp only [List.length_append, List.length_cons, List.length_nil]; omega)) rfl (fun g5 hg5 => ?_))
        rw [← lcs_append, show ((outI l n a i)).length + 1 = ((outI l n a i) ++ [x]).length from by simp] at hg5 ⊢
        refine L_y rfl (y_assign rfl) rfl ?_
        refine L_nil ?_
        refine C_region ?_
        refine L_y rfl (y_move rfl) rfl ?_
        refine L_y rfl (y_add rfl rfl (show _ = ((i + 1 : Nat) : Int) from by rw [wi64 (by omega) (by omega)]; omega)) rfl ?_
        refine L_y rfl (y_assign rfl) rfl ?_
        refine L_nil ?_
        have e1 : big l n (i + 1) = big l n i := by rw [big_next hx]; first | rw [decide_eq_false hlt, Bool.or_false] | (rw [hb]; rfl)
        have e2 : (outI l n a (i + 1)) = (outI l n a i) ++ [x] := by first | exact out_more hb hx | exact out_not hb hx hlt
        refine ⟨(i + 1, g5), ⟨by simp only; omega, ?_⟩, by simp only; omega, ?_⟩ <;> try simp only
        · rw [e2]; exact hg5
        · rw [e1, e2]
          exact ⟨⟨rfl, rfl, rfl, rfl, rfl, rfl, trivial⟩, ((hsub (.cons_cons _ (.cons_cons _ (.cons _ (.refl _))))).trans (hsub_pick [1, 1] rfl))⟩
    · have hb : big l n i = true := by simpa using hg17_3
      refine L_skip rfl rfl ?_
      refine L_skip rfl rfl ?_
      refine L_skip rfl rfl ?_
      refine L_skip rfl rfl ?_
      refine L_skip rfl rfl ?_
      refine L_skip rfl rfl ?_
      refine L_skip rfl rfl ?_
      refine L_y rfl (y_pick_f rfl rfl) rfl ?_
      refine L_nil ?_
      refine C_cond_f rfl ?_
      refine C_skip ?_
      refine C_region ?_
      refine L_y rfl (y_move rfl) rfl ?_
      refine L_y rfl (y_move rfl) rfl ?_
      refine L_y rfl (y_move rfl) rfl ?_
      refine L_y rfl (y_indexS rfl rfl Try.underlying30 sz_128 (by omega) (by omega) (show _ = i * 2 from by simp)) rfl ?_
      refine L_y rfl (y_loadA rfl ag_128 sz_128 (sees 1 0 rfl) (by rw [List.length_append, lcs_len]; omega) (lcs_at hx).2.2) rfl ?_
      refine L_op rfl (op_buildSlice (vs := [(0, _)]) rfl Try.underlying30 sz_128 zl_128 rfl (by decide) (fill_one rfl rfl rfl) rfl (fun B4 => ?_))
      refine L_op rfl (op_append (gs := g3) (len := ((outI l n a i)).length) (m := 1) (xs := lcs ((outI l n a i))) (vs := lcs [x]) 1 rfl rfl rfl hok3 (src_slice (sees 0 0 rfl) (Nat.le_of_ble_eq_true rfl) rfl) rfl (lcs_one _) Try.underlying30 ni_30 sz_128 by_128 (by decide) zl_128 rfl (by have := out_len (n := n) (a := a) hi; first | omega | (simp only [List.length_append, List.length_cons, List.length_nil]; omega)) rfl (fun g5 hg5 => ?_))
      rw [← lcs_append, show ((outI l n a i)).length + 1 = ((outI l n a i) ++ [x]).length from by simp] at hg5 ⊢
      refine L_y rfl (y_assign rfl) rfl ?_
      refine L_nil ?_
      refine C_region ?_
      refine L_y rfl (y_move rfl) rfl ?_
      refine L_y rfl (y_add rfl rfl (show _ = ((i + 1 : Nat) : Int) from by rw [wi64 (by omega) (by omega)]; omega)) rfl ?_
      refine L_y rfl (y_assign rfl) rfl ?_
      refine L_nil ?_
      have e1 : big l n (i + 1) = big l n i := by rw [big_next hx]; first | rw [decide_eq_false hlt, Bool.or_false] | (rw [hb]; rfl)
      have e2 : (outI l n a (i + 1)) = (outI l n a i) ++ [x] := by first | exact out_more hb hx | exact out_not hb hx hlt
      refine ⟨(i + 1, g5), ⟨by simp only; omega, ?_⟩, by simp only; omega, ?_⟩ <;> try simp only
      · rw [e2]; exact hg5
      · rw [e1, e2]
        exact ⟨⟨rfl, rfl, rfl, rfl, rfl, rfl, trivial⟩, ((hsub (.cons_cons _ (.cons_cons _ (.cons _ (.refl _))))).trans (hsub_pick [1, 1] rfl))⟩
  · obtain rfl : i = l.length := by have := of_decide_eq_false hc5; omega
    refine C_exit ?_
    refine C_seq ?_
    refine C_seq ?_
    refine C_region ?_
    refine L_y rfl (y_move rfl) rfl ?_
    refine L_y rfl (y_not rfl) rfl ?_
    refine L_nil ?_
    refine C_cond rfl (fun hc7 => ?_) (fun hc7 => ?_)
    · have hb : big l n l.length = false := by simpa using hc7
      refine C_region ?_
      refine L_y rfl (y_move rfl) rfl ?_
      refine L_y rfl (y_move rfl) rfl ?_
      refine L_y rfl (y_move rfl) rfl ?_
      refine L_y rfl (y_build (vs := [(0, _), (1, _)]) (l := [.int .u64 (n : Int), .int .i64 a]) rfl pl_128 zl_128 (fill_cons (off := 0) (m := 1) (vs := [_]) rfl rfl rfl (Nat.le_of_ble_eq_true rfl) (fill_cons (off := 1) (m := 1) (vs := [_]) rfl rfl rfl (Nat.le_of_ble_eq_true rfl) rfl))) rfl ?_
      refine L_op rfl (op_buildSlice (vs := [(0, _)]) rfl Try.underlying30 sz_128 zl_128 rfl (by decide) (fill_one rfl rfl rfl) rfl (fun B5 => ?_))
      refine L_op rfl (op_append (gs := g3) (len := ((outI l n a l.length)).length) (m := 1) (xs := lcs ((outI l n a l.length))) (vs := lcs [(n, a)]) 1 rfl rfl rfl hok3 (src_slice (sees 0 0 rfl) (Nat.le_of_ble_eq_true rfl) rfl) rfl (lcs_one _) Try.underlying30 ni_30 sz_128 by_128 (by decide) zl_128 rfl (by have := out_len (n := n) (a := a) hi; first | omega | (simp only [List.length_append, List.length_cons, List.length_nil]; omega)) rfl (fun g4 hg4 => ?_))
      rw [← lcs_append, show ((outI l n a l.length)).length + 1 = ((outI l n a l.length) ++ [(n, a)]).length from by simp] at hg4 ⊢
      refine L_y rfl (y_assign rfl) rfl ?_
      refine L_nil ?_
      refine C_seq ?_
      refine C_region ?_
      refine L_y rfl (y_move rfl) rfl ?_
      refine L_y rfl (y_assign rfl) rfl ?_
      refine L_y rfl (y_assign rfl) rfl ?_
      refine L_nil ?_
      refine C_ret ?_
      refine B_ret (rv_tmp rfl (rv_tmp rfl rv_nil)) ((hsub (.cons_cons _ (.cons _ (.cons _ (.refl _))))).trans (hsub_pick [1] rfl)) ?_
      have e4 : xput segs size l n a false = (xins l n a, 0) := by simp [xput, *]
      rw [e4]
      have e6 := out_end (a := a) hb
      rw [e6] at hg4
      refine ⟨g4, hg4, ?_, ?_⟩
      · rw [e6] <;> rfl
      · rw [e6] <;> rfl
    · have hb : big l n l.length = true := by simpa using hc7
      refine C_skip ?_
      refine C_seq ?_
      refine C_region ?_
      refine L_y rfl (y_move rfl) rfl ?_
      refine L_y rfl (y_assign rfl) rfl ?_
      refine L_y rfl (y_assign rfl) rfl ?_
      refine L_nil ?_
      refine C_ret ?_
      refine B_ret (rv_tmp rfl (rv_tmp rfl rv_nil)) ((hsub (.cons_cons _ (.cons _ (.refl _)))).trans (hsub_pick [0] rfl)) ?_
      have e4 : xput segs size l n a false = (xins l n a, 0) := by simp [xput, *]
      rw [e4]
      have e6 := out_done (a := a) hb
      rw [e6] at hok3
      refine ⟨g3, hok3, ?_, ?_⟩
      · rw [e6] <;> rfl
      · rw [e6] <;> rfl

theorem put18_false {w0 : World} {H : Hp} {l : Xl} {g : Option SlG} (hok : slOk 2 g l.length (lcs l)) (hl : l.length < 1000000) (segs size : Int) (n : Nat) (a : Int) (hs : Xs l) : FnS Try.prog w0 39 #[slV g l.length, .int .i64 segs, .int .i64 size, .int .u64 (n : Int), .int .i64 a, .bool false] (slSeg 128 g (lcs l) :: H) (fun e H' => ∃ g2, slOk 2 g2 (xput segs size l n a false).1.length (lcs (xput segs size l n a false).1) ∧ e = .returned (.tuple #[slV g2 (xput segs size l n a false).1.length, .int .i64 (xput segs size l n a false).2]) ∧ H' = slSeg 128 g2 (lcs (xput segs size l n a false).1) :: H) := by
  by_cases h0 : n = 0
  · exact put18_0f hok hl segs size n a h0
  · cases ho : ofS segs size a with
    | none => exact put18_rf hok hl segs size n a h0 ho
    | some s =>
      cases hf : xfind l n with
      | none => exact put18_py hok hl segs size n a h0 ho hf
      | some q =>
        obtain ⟨k, hk1, hk2, hk3⟩ := fnd_some hs hf
        exact put18_p5 hok hl segs size n a h0 ho hf hk2

end Go.Proofs.Ytighbhplfjjgpaa

/- A slice of deeds on numbers (own work). -/
set_option linter.unusedVariables false
set_option linter.unusedSimpArgs false
namespace Go.Sl
abbrev A18 := UInt8 × UInt64 × Int
abbrev a8c (x : A18) : List Value := [.int .u8 (x.1.toNat : Int), .int .u64 (x.2.1.toNat : Int), .int .i64 x.2.2]
def a8s (l : List A18) : List Value := (l.map a8c).flatten
theorem xput_len {segs size : Int} {l : Xl} (hs : Xs l) (n : Nat) (a : Int) (mv : Bool) : (xput segs size l n a mv).1.length ≤ l.length + 1 := by
  unfold xput
  split
  · simp
  · split
    · simp
    · cases hf : xfind l n with
      | some b =>
        simp only
        split
        · have := xdel_len hs hf
          simp only [xins_len]; omega
        · simp
      | none =>
        simp only
        split
        · simp
        · simp [xins_len]
end Go.Sl

/- walks (own work; the walks' lines by a program of this repo). -/
set_option linter.unusedVariables false
set_option linter.unusedSimpArgs false
set_option maxRecDepth 20000
namespace Go.Proofs.Ytighbhplfjjgpaa
open Go.Sl
attribute [local irreducible] BodyQ WpC WpL WpS WpH OpW FnS



set_option maxHeartbeats 1000000 in

theorem laid_s {w0 : World} {H : Hp} {pa : Option Addr} {ca : Nat} {ll : Xl} (hA : Holds w0 H pa (lcs ll)) (hb : ∀ c ∈ ll, c.1 < 18446744073709551616) (hl : ll.length < 100000) (segs size : Int) : FnS Try.prog w0 10 #[shV segs size, .slice pa ll.length ca] H (fun e H' => ∃ (o : Xo) (g : Option SlG) (A L : Gm), Xm segs size (laidL segs size ll) A L ∧ slOk 2 g (laidL segs size ll).length (lcs (laidL segs size ll)) ∧ (laidL segs size ll).length ≤ ll.length ∧ e = .returned (.tuple #[ptr o.b, slV g (laidL segs size ll).length]) ∧ H' = o.seg 90 segs size A L :: slSeg 128 g (lcs (laidL segs size ll)) :: H) := by
  refine FnS_intro (n := 50) (rs := [.tmp 4, .tmp 5]) (vs := [shV segs size, .slice pa ll.length ca]) Try.func10 rfl Try.ntmps10 rfl rfl ?_
  refine C_seq ?_
  refine C_region ?_
  refine L_op rfl (op_box rfl rfl rfl (fun B1 => ?_))
  refine L_y rfl (y_assign rfl) rfl ?_
  refine L_y rfl (y_assign rfl) rfl ?_
  refine L_nil ?_
  refine C_seq ?_
  refine C_region ?_
  refine L_y rfl (y_loadA rfl ag_23 sz_23 (sees 0 0 rfl) (Nat.le_of_ble_eq_true rfl) rfl) rfl ?_
  refine L_op rfl (op_call rfl rfl (fun a w => Try.call28 a w) rfl ?_)
  refine (xnew_s segs size).mono ?_
  rintro _ _ ⟨o1, rfl, rfl⟩
  have hX1 := Xm.new segs size
  refine ⟨_, rfl, ?_⟩
  refine L_y rfl (y_assign rfl) rfl ?_
  refine L_nil ?_
  refine C_seq ?_
  refine C_region ?_
  refine L_y rfl (y_assign rfl) rfl ?_
  refine L_nil ?_
  refine C_seq ?_
  refine C_seq ?_
  refine C_region ?_
  refine L_y rfl (y_assign rfl) rfl ?_
  refine L_nil ?_
  refine C_block ?_
  refine C_loop (ι := Gm × Gm × Option SlG × Nat) (fun i => [(1, .slice pa ll.length ca), (2, ptr B1), (6, ptr o1.b), (7, slV i.2.2.1 (laidL segs size (ll.take i.2.2.2)).length), (8, .int .i64 (i.2.2.2 : Int))]) (fun i => o1.seg 90 segs size i.1 i.2.1 :: slSeg 128 i.2.2.1 (lcs (laidL segs size (ll.take i.2.2.2))) :: [(B1, .cells [Value.int .i64 segs, .int .i64 size].toArray 23)] :: H) (fun i => Xm segs size (laidL segs size (ll.take i.2.2.2)) i.1 i.2.1 ∧ slOk 2 i.2.2.1 (laidL segs size (ll.take i.2.2.2)).length (lcs (laidL segs size (ll.take i.2.2.2))) ∧ (laidL segs size (ll.take i.2.2.2)).length ≤ i.2.2.2 ∧ i.2.2.2 ≤ ll.length) (fun i => ll.length - i.2.2.2) (_, _, none, 0) ⟨hX1, ⟨rfl, rfl⟩, Nat.le_refl _, Nat.zero_le _⟩ ⟨rfl, rfl, rfl, rfl, rfl, trivial⟩ (hsub_nil1.trans (HSub.refl _)) (fun i hi => ?_)
  obtain ⟨A, L, g, i⟩ := i
  obtain ⟨hX, hok, hxl, hi⟩ := hi
  try simp only at hX hok hxl hi
  try dsimp only
  refine C_seq ?_
  refine C_seq ?_
  refine C_region ?_
  refine L_y rfl (y_move rfl) rfl ?_
  refine L_y rfl (y_move rfl) rfl ?_
  refine L_y rfl (y_lenS rfl rfl Try.underlying24) rfl ?_
  refine L_y rfl (y_lss rfl rfl) rfl ?_
  refine L_nil ?_
  refine C_cond rfl (fun hc0 => ?_) (fun hc0 => ?_)
  · replace hc0 : i < ll.length := by have := of_decide_eq_true hc0; omega
    obtain ⟨c, hx⟩ : ∃ c, ll[i]? = some c := ⟨_, List.getElem?_eq_getElem hc0⟩
    obtain ⟨b1, o1_, l1, T1, fr1, rfl, hs1, hle1, hv1⟩ := hA (by rw [lcs_len]; omega)
    rw [lcs_len] at hle1
    refine C_skip ?_
    refine C_seq ?_
    refine C_block ?_
    refine C_seq ?_
    refine C_regionH ([(B1, .cells [Value.int .i64 segs, .int .i64 size].toArray 23)] :: H) (by kernel_rfl) ?_
    refine H_y 0 rfl (by kernel_rfl) (by kernel_rfl) (by kernel_rfl) (((hsub (.cons_cons _ (.cons _ (.cons _ (.refl _))))).trans (hsub_pick [2] rfl))) rfl (y_move rfl) rfl ?_
    refine H_y 1 rfl (by kernel_rfl) (by kernel_rfl) (by kernel_rfl) (((hsub (.cons_cons _ (.cons _ (.cons _ (.refl _))))).trans (hsub_pick [2] rfl))) rfl (y_move rfl) rfl ?_
    refine H_y 2 rfl (by kernel_rfl) (by kernel_rfl) (by kernel_rfl) (((hsub (.cons_cons _ (.cons _ (.cons _ (.refl _))))).trans (hsub_pick [2] rfl))) rfl (y_move rfl) rfl ?_
    refine H_y 3 rfl (by kernel_rfl) (by kernel_rfl) (by kernel_rfl) (((hsub (.cons_cons _ (.cons _ (.cons _ (.refl _))))).trans (hsub_pick [2] rfl))) rfl (y_indexS rfl rfl Try.underlying24 sz_83 (by omega) (by omega) (show _ = o1_ + i * 2 from by simp)) rfl ?_
    refine H_y 4 rfl (by kernel_rfl) (by kernel_rfl) (by kernel_rfl) (((hsub (.cons_cons _ (.cons _ (.cons _ (.refl _))))).trans (hsub_pick [2] rfl))) rfl (y_fieldAddr rfl fl_83_0) rfl ?_
    refine H_y 5 rfl (by kernel_rfl) (by kernel_rfl) (by kernel_rfl) (((hsub (.cons_cons _ (.cons _ (.cons _ (.refl _))))).trans (hsub_pick [2] rfl))) rfl (y_load rfl ag_48 (hs1.up) (lcs_hat hv1 hx).1) rfl ?_
    refine H_y 6 rfl (by kernel_rfl) (by kernel_rfl) (by kernel_rfl) (((hsub (.cons_cons _ (.cons _ (.cons _ (.refl _))))).trans (hsub_pick [2] rfl))) rfl (y_move rfl) rfl ?_
    refine H_y 7 rfl (by kernel_rfl) (by kernel_rfl) (by kernel_rfl) (((hsub (.cons_cons _ (.cons _ (.cons _ (.refl _))))).trans (hsub_pick [2] rfl))) rfl (y_move rfl) rfl ?_
    refine H_y 8 rfl (by kernel_rfl) (by kernel_rfl) (by kernel_rfl) (((hsub (.cons_cons _ (.cons _ (.cons _ (.refl _))))).trans (hsub_pick [2] rfl))) rfl (y_indexS rfl rfl Try.underlying24 sz_83 (by omega) (by omega) (show _ = o1_ + i * 2 from by simp)) rfl ?_
    refine H_y 9 rfl (by kernel_rfl) (by kernel_rfl) (by kernel_rfl) (((hsub (.cons_cons _ (.cons _ (.cons _ (.refl _))))).trans (hsub_pick [2] rfl))) rfl (y_fieldAddr rfl fl_83_1) rfl ?_
    refine H_y 10 rfl (by kernel_rfl) (by kernel_rfl) (by kernel_rfl) (((hsub (.cons_cons _ (.cons _ (.cons _ (.refl _))))).trans (hsub_pick [2] rfl))) rfl (y_load rfl ag_3 (hs1.up) (lcs_hat hv1 hx).2) rfl ?_
    refine H_one 11 rfl (by kernel_rfl) rfl (op_call rfl rfl (fun a w => Try.call30 a w) rfl ?_)
    refine (FnS.sub (hsub_pick [0] rfl) (xput_s hX c.1 (hb c (List.mem_of_getElem? hx)) c.2 (by omega))).mono ?_
    rintro _ _ ⟨rfl, A2, L2, hX2, rfl⟩
    refine ⟨_, rfl, ?_⟩
    refine ⟨((hsub (.cons_cons _ (.cons _ (.cons _ (.refl _))))).trans (hsub_pick [2] rfl)), ?_⟩
    refine H_done (by kernel_rfl) ?_
    refine C_regionH ([(B1, .cells [Value.int .i64 segs, .int .i64 size].toArray 23)] :: H) (by kernel_rfl) ?_
    refine H_y 0 rfl (by kernel_rfl) (by kernel_rfl) (by kernel_rfl) (((hsub (.cons_cons _ (.cons _ (.cons _ (.refl _))))).trans (hsub_pick [2] rfl))) rfl (y_move rfl) rfl ?_
    refine H_y 1 rfl (by kernel_rfl) (by kernel_rfl) (by kernel_rfl) (((hsub (.cons_cons _ (.cons _ (.cons _ (.refl _))))).trans (hsub_pick [2] rfl))) rfl (y_fieldAddr rfl fl_23_0) rfl ?_
    refine H_y 2 rfl (by kernel_rfl) (by kernel_rfl) (by kernel_rfl) (((hsub (.cons_cons _ (.cons _ (.cons _ (.refl _))))).trans (hsub_pick [2] rfl))) rfl (y_load rfl ag_3 (sees 0 0 rfl) rfl) rfl ?_
    refine H_y 3 rfl (by kernel_rfl) (by kernel_rfl) (by kernel_rfl) (((hsub (.cons_cons _ (.cons _ (.cons _ (.refl _))))).trans (hsub_pick [2] rfl))) rfl (y_fieldAddr rfl fl_23_1) rfl ?_
    refine H_y 4 rfl (by kernel_rfl) (by kernel_rfl) (by kernel_rfl) (((hsub (.cons_cons _ (.cons _ (.cons _ (.refl _))))).trans (hsub_pick [2] rfl))) rfl (y_load rfl ag_3 (sees 0 0 rfl) rfl) rfl ?_
    refine H_y 5 rfl (by kernel_rfl) (by kernel_rfl) (by kernel_rfl) (((hsub (.cons_cons _ (.cons _ (.cons _ (.refl _))))).trans (hsub_pick [2] rfl))) rfl (y_move rfl) rfl ?_
    refine H_y 6 rfl (by kernel_rfl) (by kernel_rfl) (by kernel_rfl) (((hsub (.cons_cons _ (.cons _ (.cons _ (.refl _))))).trans (hsub_pick [2] rfl))) rfl (y_move rfl) rfl ?_
    refine H_y 7 rfl (by kernel_rfl) (by kernel_rfl) (by kernel_rfl) (((hsub (.cons_cons _ (.cons _ (.cons _ (.refl _))))).trans (hsub_pick [2] rfl))) rfl (y_indexS rfl rfl Try.underlying24 sz_83 (by omega) (by omega) (show _ = o1_ + i * 2 from by simp)) rfl ?_
    refine H_y 8 rfl (by kernel_rfl) (by kernel_rfl) (by kernel_rfl) (((hsub (.cons_cons _ (.cons _ (.cons _ (.refl _))))).trans (hsub_pick [2] rfl))) rfl (y_fieldAddr rfl fl_83_0) rfl ?_
    refine H_y 9 rfl (by kernel_rfl) (by kernel_rfl) (by kernel_rfl) (((hsub (.cons_cons _ (.cons _ (.cons _ (.refl _))))).trans (hsub_pick [2] rfl))) rfl (y_load rfl ag_48 (hs1.up) (lcs_hat hv1 hx).1) rfl ?_
    refine H_y 10 rfl (by kernel_rfl) (by kernel_rfl) (by kernel_rfl) (((hsub (.cons_cons _ (.cons _ (.cons _ (.refl _))))).trans (hsub_pick [2] rfl))) rfl (y_move rfl) rfl ?_
    refine H_y 11 rfl (by kernel_rfl) (by kernel_rfl) (by kernel_rfl) (((hsub (.cons_cons _ (.cons _ (.cons _ (.refl _))))).trans (hsub_pick [2] rfl))) rfl (y_move rfl) rfl ?_
    refine H_y 12 rfl (by kernel_rfl) (by kernel_rfl) (by kernel_rfl) (((hsub (.cons_cons _ (.cons _ (.cons _ (.refl _))))).trans (hsub_pick [2] rfl))) rfl (y_indexS rfl rfl Try.underlying24 sz_83 (by omega) (by omega) (show _ = o1_ + i * 2 from by simp)) rfl ?_
    refine H_y 13 rfl (by kernel_rfl) (by kernel_rfl) (by kernel_rfl) (((hsub (.cons_cons _ (.cons _ (.cons _ (.refl _))))).trans (hsub_pick [2] rfl))) rfl (y_fieldAddr rfl fl_83_1) rfl ?_
    refine H_y 14 rfl (by kernel_rfl) (by kernel_rfl) (by kernel_rfl) (((hsub (.cons_cons _ (.cons _ (.cons _ (.refl _))))).trans (hsub_pick [2] rfl))) rfl (y_load rfl ag_3 (hs1.up) (lcs_hat hv1 hx).2) rfl ?_
    refine H_one 15 rfl (by kernel_rfl) rfl (op_call rfl rfl (fun a w => Try.call39 a w) rfl ?_)
    refine (FnS.sub (hsub_pick [1] rfl) (put18_false hok (by omega) segs size c.1 c.2 hX.s)).mono ?_
    rintro _ _ ⟨g2, hg2, rfl, rfl⟩
    refine ⟨_, rfl, ?_⟩
    refine ⟨((hsub (.cons_cons _ (.cons _ (.cons _ (.refl _))))).trans (hsub_pick [2] rfl)), ?_⟩
    refine H_y 16 rfl (by kernel_rfl) (by kernel_rfl) (by kernel_rfl) (((hsub (.cons_cons _ (.cons _ (.cons _ (.refl _))))).trans (hsub_pick [2] rfl))) rfl (y_move rfl) rfl ?_
    refine H_y 17 rfl (by kernel_rfl) (by kernel_rfl) (by kernel_rfl) (((hsub (.cons_cons _ (.cons _ (.cons _ (.refl _))))).trans (hsub_pick [2] rfl))) rfl (y_extract rfl rfl) rfl ?_
    refine H_y 18 rfl (by kernel_rfl) (by kernel_rfl) (by kernel_rfl) (((hsub (.cons_cons _ (.cons _ (.cons _ (.refl _))))).trans (hsub_pick [2] rfl))) rfl (y_extract rfl rfl) rfl ?_
    refine H_y 19 rfl (by kernel_rfl) (by kernel_rfl) (by kernel_rfl) (((hsub (.cons_cons _ (.cons _ (.cons _ (.refl _))))).trans (hsub_pick [2] rfl))) rfl (y_assign rfl) rfl ?_
    refine H_done (by kernel_rfl) ?_
    refine C_region ?_
    refine L_y rfl (y_move rfl) rfl ?_
    refine L_y rfl (y_add rfl rfl (show _ = ((i + 1 : Nat) : Int) from by rw [wi64 (by omega) (by omega)]; omega)) rfl ?_
    refine L_y rfl (y_assign rfl) rfl ?_
    refine L_nil ?_
    have hz := laid_next (segs := segs) (size := size) hx
    rw [← hz] at hX2 hg2
    refine ⟨(A2, L2, g2, i + 1), ⟨hX2, hg2, by simp only; rw [hz]; exact Nat.le_trans (xput_len hX.s _ _ _) (Nat.succ_le_succ hxl), by simp only; omega⟩, by simp only; omega, ?_⟩
    try simp only
    rw [hz]
    exact ⟨⟨rfl, rfl, rfl, rfl, rfl, trivial⟩, ((hsub (.cons_cons _ (.cons_cons _ (.cons_cons _ (.refl _))))).trans (hsub_pick [1, 0, 0] rfl))⟩
  · obtain rfl : i = ll.length := by have := of_decide_eq_false hc0; omega
    refine C_exit ?_
    refine C_seq ?_
    refine C_region ?_
    refine L_y rfl (y_move rfl) rfl ?_
    refine L_y rfl (y_move rfl) rfl ?_
    refine L_y rfl (y_assign rfl) rfl ?_
    refine L_y rfl (y_assign rfl) rfl ?_
    refine L_nil ?_
    refine C_ret ?_
    refine B_ret (rv_tmp rfl (rv_tmp rfl rv_nil)) ((hsub (.cons_cons _ (.cons_cons _ (.cons _ (.refl _))))).trans (hsub_pick [0, 0] rfl)) ?_
    rw [List.take_length] at hX hok hxl ⊢
    exact ⟨o1, g, A, L, hX, hok, hxl, rfl, rfl⟩

end Go.Proofs.Ytighbhplfjjgpaa

/- walks (own work; the walks' lines by a program of this repo). -/
set_option linter.unusedVariables false
set_option linter.unusedSimpArgs false
set_option maxRecDepth 20000
namespace Go.Proofs.Ytighbhplfjjgpaa
open Go.Sl
attribute [local irreducible] BodyQ WpC WpL WpS WpH OpW FnS


theorem used42_s {w0 : World} {H : Hp} {pa : Option Addr} {k ca : Nat} : FnS Try.prog w0 12 #[.slice pa k ca] H (fun e H' => ∃ b, e = .returned (.func (.func 42) #[] ([ptr b] : List Value).toArray) ∧ H' = [(b, .cells [Value.slice pa k ca].toArray 25)] :: H) := by
  refine FnS_intro (n := 4) (rs := [.tmp 2]) (vs := [.slice pa k ca]) Try.func12 rfl Try.ntmps12 rfl rfl ?_
  refine C_seq ?_
  refine C_region ?_
  refine L_op rfl (op_box rfl rfl rfl (fun B1 => ?_))
  refine L_y rfl (y_assign rfl) rfl ?_
  refine L_nil ?_
  refine C_seq ?_
  refine C_region ?_
  refine L_y rfl (y_makeFunc rfl rfl) rfl ?_
  refine L_y rfl (y_assign rfl) rfl ?_
  refine L_nil ?_
  refine C_ret ?_
  refine B_ret (rv_tmp rfl rv_nil) (HSub.refl _) ?_
  exact ⟨B1, rfl, rfl⟩

theorem used421_s {w0 : World} {H : Hp} {pa : Option Addr} {ca b : Nat} {l : List Bool} (hC : Sees (fun w => St w0 w H) b (.cells [Value.slice pa l.length ca].toArray 25)) (hA : Holds w0 H pa (bos l)) (hl : l.length < 1000000) (k : Int) : FnS Try.prog w0 42 #[.int .i64 k, ptr b] H (fun e H' => e = .returned (.bool (decide (0 ≤ k) && l.getD k.toNat false)) ∧ H' = H) := by
  refine FnS_intro (n := 18) (rs := [.tmp 3]) (vs := [.int .i64 k, ptr b]) Try.func42 rfl Try.ntmps42 rfl rfl ?_
  refine C_seq ?_
  refine C_region ?_
  refine L_y rfl (y_assign rfl) rfl ?_
  refine L_nil ?_
  refine C_seq ?_
  refine C_region ?_
  refine L_y rfl (y_move rfl) rfl ?_
  refine L_y rfl (y_geq rfl rfl) rfl ?_
  refine L_y rfl (y_move rfl) rfl ?_
  refine L_case 6 rfl (fun hg1_3 => ?_) (fun hg1_3 => ?_)
  · have h0 : 0 ≤ k := of_decide_eq_true hg1_3
    refine L_y rfl (y_move rfl) rfl ?_
    refine L_y rfl (y_load rfl ag_25 (hC) rfl) rfl ?_
    refine L_y rfl (y_lenS rfl rfl Try.underlying25) rfl ?_
    refine L_y rfl (y_lss rfl rfl) rfl ?_
    refine L_y rfl (y_pick_t rfl rfl) rfl ?_
    refine L_y rfl (y_move rfl) rfl ?_
    refine L_case 12 rfl (fun hg1_9 => ?_) (fun hg1_9 => ?_)
    · have h1 : k.toNat < l.length := by have := of_decide_eq_true hg1_9; omega
      obtain ⟨b1, o1, l1, T1, fr1, rfl, hs1, hle1, hv1⟩ := hA (by rw [bos_len]; omega)
      refine L_y rfl (y_load rfl ag_25 (hC) rfl) rfl ?_
      refine L_y rfl (y_move rfl) rfl ?_
      refine L_y rfl (y_indexS rfl rfl Try.underlying25 sz_4 (by omega) (by omega) (show _ = o1 + k.toNat * 1 from by simp)) rfl ?_
      refine L_y rfl (y_load rfl ag_4 (hs1) (bos_hat hv1 h1)) rfl ?_
      refine L_y rfl (y_pick_t rfl rfl) rfl ?_
      refine L_y rfl (y_assign rfl) rfl ?_
      refine L_nil ?_
      refine C_ret ?_
      refine B_ret (rv_tmp rfl rv_nil) (hsub (.refl _)) ?_
      refine ⟨congrArg (fun b => Ending.returned (Value.bool b)) ?_, rfl⟩
      first
      | (simp only [decide_eq_true h0, Bool.true_and, h2]; done)
      | (simp only [decide_eq_true h0, Bool.true_and]; done)
      | (simp only [decide_eq_false h0, Bool.false_and]; done)
    · have h1 : ¬ k.toNat < l.length := by have := of_decide_eq_false hg1_9; omega
      have h2 : l.getD k.toNat false = false := by rw [List.getD_eq_getElem?_getD, List.getElem?_eq_none (Nat.le_of_not_lt h1)]; rfl
      refine L_skip rfl rfl ?_
      refine L_skip rfl rfl ?_
      refine L_skip rfl rfl ?_
      refine L_skip rfl rfl ?_
      refine L_y rfl (y_pick_f rfl rfl) rfl ?_
      refine L_y rfl (y_assign rfl) rfl ?_
      refine L_nil ?_
      refine C_ret ?_
      refine B_ret (rv_tmp rfl rv_nil) (hsub (.refl _)) ?_
      refine ⟨congrArg (fun b => Ending.returned (Value.bool b)) ?_, rfl⟩
      first
      | (simp only [decide_eq_true h0, Bool.true_and, h2]; done)
      | (simp only [decide_eq_true h0, Bool.true_and]; done)
      | (simp only [decide_eq_false h0, Bool.false_and]; done)
  · have h0 : ¬ 0 ≤ k := of_decide_eq_false hg1_3
    refine L_skip rfl rfl ?_
    refine L_skip rfl rfl ?_
    refine L_skip rfl rfl ?_
    refine L_skip rfl rfl ?_
    refine L_y rfl (y_pick_f rfl rfl) rfl ?_
    refine L_y rfl (y_move rfl) rfl ?_
    refine L_skip rfl rfl ?_
    refine L_skip rfl rfl ?_
    refine L_skip rfl rfl ?_
    refine L_skip rfl rfl ?_
    refine L_y rfl (y_pick_f rfl rfl) rfl ?_
    refine L_y rfl (y_assign rfl) rfl ?_
    refine L_nil ?_
    refine C_ret ?_
    refine B_ret (rv_tmp rfl rv_nil) (hsub (.refl _)) ?_
    refine ⟨congrArg (fun b => Ending.returned (Value.bool b)) ?_, rfl⟩
    first
    | (simp only [decide_eq_true h0, Bool.true_and, h2]; done)
    | (simp only [decide_eq_true h0, Bool.true_and]; done)
    | (simp only [decide_eq_false h0, Bool.false_and]; done)

end Go.Proofs.Ytighbhplfjjgpaa

/- What the laws of layer 42 ask (own work). -/
set_option linter.unusedVariables false
set_option linter.unusedSimpArgs false
namespace Go.Sl
theorem holds_sl2 {w0 : World} {H : Hp} {sz e s len cap : Nat} {g : Option SlG} {vs : List Value} {a : Option Addr} (he : slV g len = .slice a len cap) (hs : H[s]? = some (slSeg e g vs)) (hok : slOk sz g len vs) : Holds w0 H a vs := by
  obtain ⟨a', cap', e', h⟩ := holds_sl (w0 := w0) hs hok
  rw [he] at e'
  injection e' with e1 e2 e3
  rw [e1]
  exact h
/-- The gain. -/
def gain42 (segs size : Int) (l : Xl) (seg : Int) (ns : List Nat) : Int :=
  if mayG segs size = false ∨ seg < 0 ∨ segs ≤ seg then 0 else max (size - ((gset segs size l seg ns).length : Int)) 0
end Go.Sl

/- walks (own work; the walks' lines by a program of this repo). -/
set_option linter.unusedVariables false
set_option linter.unusedSimpArgs false
set_option maxRecDepth 20000
namespace Go.Proofs.Ytighbhplfjjgpaa
open Go.Sl
attribute [local irreducible] BodyQ WpC WpL WpS WpH OpW FnS



set_option maxHeartbeats 2000000 in

theorem awake42_s {w0 : World} {H : Hp}  : FnS Try.prog w0 8 #[] H (fun e H' => e = .returned (.bool true) ∧ H' = H) := by
  refine FnS_intro (n := 72) (rs := [.tmp 0]) (vs := []) Try.func8 rfl Try.ntmps8 rfl rfl ?_
  refine C_seq ?_
  refine C_region ?_
  refine L_y rfl (y_assign rfl) rfl ?_
  refine L_nil ?_
  refine C_seq ?_
  refine C_region ?_
  refine L_y rfl (y_build (vs := [(0, _), (1, _)]) rfl pl_23 zl_23 (fill_cons (off := 0) (m := 1) (vs := [_]) rfl rfl rfl (Nat.le_of_ble_eq_true rfl) (fill_cons (off := 1) (m := 1) (vs := [_]) rfl rfl rfl (Nat.le_of_ble_eq_true rfl) rfl))) rfl ?_
  refine L_op rfl (op_alloc zl_23 rfl (fun B1 => ?_))
  refine L_op rfl (op_store 0 0 rfl rfl rfl sz_23 rfl rfl (ones rfl) (by decide) ?_)
  skip
  refine L_nil ?_
  refine C_seq ?_
  refine C_region ?_
  refine L_y rfl (y_loadA rfl ag_23 sz_23 (sees 0 0 rfl) (Nat.le_of_ble_eq_true rfl) rfl) rfl ?_
  refine L_y rfl (y_build (vs := [(0, _), (1, _)]) rfl pl_83 zl_83 (fill_cons (off := 0) (m := 1) (vs := [_]) rfl rfl rfl (Nat.le_of_ble_eq_true rfl) (fill_cons (off := 1) (m := 1) (vs := [_]) rfl rfl rfl (Nat.le_of_ble_eq_true rfl) rfl))) rfl ?_
  refine L_y rfl (y_build (vs := [(0, _), (1, _)]) rfl pl_83 zl_83 (fill_cons (off := 0) (m := 1) (vs := [_]) rfl rfl rfl (Nat.le_of_ble_eq_true rfl) (fill_cons (off := 1) (m := 1) (vs := [_]) rfl rfl rfl (Nat.le_of_ble_eq_true rfl) rfl))) rfl ?_
  refine L_y rfl (y_build (vs := [(0, _), (1, _)]) rfl pl_83 zl_83 (fill_cons (off := 0) (m := 1) (vs := [_]) rfl rfl rfl (Nat.le_of_ble_eq_true rfl) (fill_cons (off := 1) (m := 1) (vs := [_]) rfl rfl rfl (Nat.le_of_ble_eq_true rfl) rfl))) rfl ?_
  refine L_op rfl (op_buildSlice (vs := [(0, _), (1, _), (2, _)]) rfl Try.underlying24 sz_83 zl_83 rfl (by decide) (fill_cons (off := 0) (m := 2) (vs := [_, _]) rfl rfl rfl (Nat.le_of_ble_eq_true rfl) (fill_cons (off := 2) (m := 2) (vs := [_, _]) rfl rfl rfl (Nat.le_of_ble_eq_true rfl) (fill_cons (off := 4) (m := 2) (vs := [_, _]) rfl rfl rfl (Nat.le_of_ble_eq_true rfl) rfl))) rfl (fun B2 => ?_))
  refine L_op rfl (op_call rfl rfl (fun a w => Try.call10 a w) rfl ?_)
  refine (laid_s (ll := [(1, 2), (2, 3), (3, 4)]) (holds_slice (sees 0 0 rfl) (by decide) rfl) (by decide) (by decide) 4 2).mono ?_
  rw [show laidL 4 2 [(1, 2), (2, 3), (3, 4)] = [(1, 2), (2, 3), (3, 4)] from by decide +kernel]
  rintro _ _ ⟨o1, g1, A1, L1, hX, hg1, _, rfl, rfl⟩
  refine ⟨_, rfl, ?_⟩
  refine L_y rfl (y_move rfl) rfl ?_
  refine L_y rfl (y_extract rfl rfl) rfl ?_
  refine L_y rfl (y_extract rfl rfl) rfl ?_
  refine L_y rfl (y_assign rfl) rfl ?_
  refine L_y rfl (y_assign rfl) rfl ?_
  refine L_nil ?_
  refine C_seq ?_
  refine C_region ?_
  refine L_y rfl (y_move rfl) rfl ?_
  refine L_op rfl (op_buildSlice (vs := [(0, _), (1, _), (2, _), (3, _)]) rfl Try.underlying25 sz_4 zl_4 rfl (by decide) (fill_cons (off := 0) (m := 1) (vs := [_]) rfl rfl rfl (Nat.le_of_ble_eq_true rfl) (fill_cons (off := 1) (m := 1) (vs := [_]) rfl rfl rfl (Nat.le_of_ble_eq_true rfl) (fill_cons (off := 2) (m := 1) (vs := [_]) rfl rfl rfl (Nat.le_of_ble_eq_true rfl) (fill_cons (off := 3) (m := 1) (vs := [_]) rfl rfl rfl (Nat.le_of_ble_eq_true rfl) rfl)))) rfl (fun B3 => ?_))
  refine L_op rfl (op_call rfl rfl (fun a w => Try.call12 a w) rfl ?_)
  refine used42_s.mono ?_
  rintro _ _ ⟨uba, rfl, rfl⟩
  refine ⟨_, rfl, ?_⟩
  refine L_op rfl (op_call rfl rfl (fun a w => Try.call11 a w) rfl ?_)
  refine (FnS.sub (hsub_pick [2] rfl) (choose_y hX (fu := 42) (cu := [ptr uba]) (p := (fun k => decide (0 ≤ (k : Int)) && ([true, true, true, false] : List Bool).getD (k : Int).toNat false)) (-1) (fun a w => Try.call42 a w) (fun k hk H1 hs => used421_s (l := [true, true, true, false]) (Sees.sub (by exact sees 0 0 rfl) hs) ((holds_slice (sees 1 0 rfl) (by decide) rfl).sub hs) (by decide) k) (by decide) (v := 2) (by decide +kernel) (by decide))).mono ?_
  rw [show xnums 4 2 [(1, 2), (2, 3), (3, 4)] ((2 : Nat) : Int) = [] from by decide +kernel]
  rintro _ _ ⟨ga, hga, rfl, rfl⟩
  obtain ⟨gaa, gca, gea, _⟩ := holds_sl (w0 := w0) (H := [slSeg 48 ga (us [])]) (s := 0) rfl hga
  rw [gea]
  refine ⟨_, rfl, ?_⟩
  refine L_y rfl (y_move rfl) rfl ?_
  refine L_y rfl (y_extract rfl rfl) rfl ?_
  refine L_y rfl (y_extract rfl rfl) rfl ?_
  refine L_op rfl (op_alloc zl_35 rfl (fun B4 => ?_))
  refine L_op rfl (op_store 0 0 rfl rfl rfl sz_35 rfl rfl (ones rfl) (by decide) ?_)
  skip
  refine L_y rfl (y_assign rfl) rfl ?_
  refine L_nil ?_
  refine C_seq ?_
  refine C_region ?_
  refine L_y rfl (y_move rfl) rfl ?_
  refine L_op rfl (op_buildSlice (vs := [(0, _), (1, _), (2, _), (3, _)]) rfl Try.underlying25 sz_4 zl_4 rfl (by decide) (fill_cons (off := 0) (m := 1) (vs := [_]) rfl rfl rfl (Nat.le_of_ble_eq_true rfl) (fill_cons (off := 1) (m := 1) (vs := [_]) rfl rfl rfl (Nat.le_of_ble_eq_true rfl) (fill_cons (off := 2) (m := 1) (vs := [_]) rfl rfl rfl (Nat.le_of_ble_eq_true rfl) (fill_cons (off := 3) (m := 1) (vs := [_]) rfl rfl rfl (Nat.le_of_ble_eq_true rfl) rfl)))) rfl (fun B5 => ?_))
  refine L_op rfl (op_call rfl rfl (fun a w => Try.call12 a w) rfl ?_)
  refine used42_s.mono ?_
  rintro _ _ ⟨ubb, rfl, rfl⟩
  refine ⟨_, rfl, ?_⟩
  refine L_op rfl (op_call rfl rfl (fun a w => Try.call11 a w) rfl ?_)
  refine (FnS.sub (hsub_pick [4] rfl) (choose_y hX (fu := 42) (cu := [ptr ubb]) (p := (fun k => decide (0 ≤ (k : Int)) && ([true, true, true, false] : List Bool).getD (k : Int).toNat false)) 2 (fun a w => Try.call42 a w) (fun k hk H1 hs => used421_s (l := [true, true, true, false]) (Sees.sub (by exact sees 0 0 rfl) hs) ((holds_slice (sees 1 0 rfl) (by decide) rfl).sub hs) (by decide) k) (by decide) (v := 1) (by decide +kernel) (by decide))).mono ?_
  rw [show xnums 4 2 [(1, 2), (2, 3), (3, 4)] ((1 : Nat) : Int) = [3] from by decide +kernel]
  rintro _ _ ⟨gb, hgb, rfl, rfl⟩
  obtain ⟨gab, gcb, geb, _⟩ := holds_sl (w0 := w0) (H := [slSeg 48 gb (us [3])]) (s := 0) rfl hgb
  rw [geb]
  refine ⟨_, rfl, ?_⟩
  refine L_y rfl (y_move rfl) rfl ?_
  refine L_y rfl (y_extract rfl rfl) rfl ?_
  refine L_y rfl (y_extract rfl rfl) rfl ?_
  refine L_op rfl (op_alloc zl_35 rfl (fun B6 => ?_))
  refine L_op rfl (op_store 0 0 rfl rfl rfl sz_35 rfl rfl (ones rfl) (by decide) ?_)
  skip
  refine L_y rfl (y_assign rfl) rfl ?_
  refine L_nil ?_
  refine C_seq ?_
  refine C_region ?_
  refine L_y rfl (y_move rfl) rfl ?_
  refine L_y rfl (y_move rfl) rfl ?_
  refine L_y rfl (y_fieldAddr rfl fl_35_0) rfl ?_
  refine L_y rfl (y_load rfl ag_3 (sees 5 0 rfl) rfl) rfl ?_
  refine L_y rfl (y_eqi rfl rfl) rfl ?_
  refine L_y rfl (y_pick_t rfl rfl) rfl ?_
  refine L_y rfl (y_move rfl) rfl ?_
  refine L_y rfl (y_fieldAddr rfl fl_35_1) rfl ?_
  refine L_y rfl (y_load rfl ag_33 (sees 5 0 rfl) rfl) rfl ?_
  refine L_y rfl (y_lenS rfl rfl Try.underlying33) rfl ?_
  refine L_y rfl (y_eqi rfl rfl) rfl ?_
  refine L_y rfl (y_pick_t rfl rfl) rfl ?_
  refine L_y rfl (y_move rfl) rfl ?_
  refine L_y rfl (y_move rfl) rfl ?_
  refine L_y rfl (y_loadA rfl ag_23 sz_23 (sees 11 0 rfl) (Nat.le_of_ble_eq_true rfl) rfl) rfl ?_
  refine L_y rfl (y_loadA rfl ag_35 sz_35 (sees 5 0 rfl) (Nat.le_of_ble_eq_true rfl) rfl) rfl ?_
  refine L_op rfl (op_call rfl rfl (fun a w => Try.call17 a w) rfl ?_)
  refine (FnS.sub (hsub_pick [2] rfl) (gain_y (ns := []) hX (holds_sl2 gea (s := 5) rfl hga) (by decide) 2 (by decide) (by decide) (by decide))).mono ?_
  rw [show (max ((2 : Int) - ((gset 4 2 [(1, 2), (2, 3), (3, 4)] 2 []).length : Int)) 0) = 2 from by decide +kernel]
  rintro _ _ ⟨rfl, rfl⟩
  refine ⟨_, rfl, ?_⟩
  refine L_y rfl (y_eqi rfl rfl) rfl ?_
  refine L_y rfl (y_pick_t rfl rfl) rfl ?_
  refine L_y rfl (y_move rfl) rfl ?_
  refine L_y rfl (y_move rfl) rfl ?_
  refine L_y rfl (y_pick_t rfl rfl) rfl ?_
  refine L_y rfl (y_move rfl) rfl ?_
  refine L_y rfl (y_fieldAddr rfl fl_35_0) rfl ?_
  refine L_y rfl (y_load rfl ag_3 (sees 1 0 rfl) rfl) rfl ?_
  refine L_y rfl (y_eqi rfl rfl) rfl ?_
  refine L_y rfl (y_pick_t rfl rfl) rfl ?_
  refine L_y rfl (y_move rfl) rfl ?_
  refine L_y rfl (y_fieldAddr rfl fl_35_1) rfl ?_
  refine L_y rfl (y_load rfl ag_33 (sees 1 0 rfl) rfl) rfl ?_
  refine L_y rfl (y_lenS rfl rfl Try.underlying33) rfl ?_
  refine L_y rfl (y_eqi rfl rfl) rfl ?_
  refine L_y rfl (y_pick_t rfl rfl) rfl ?_
  refine L_y rfl (y_move rfl) rfl ?_
  refine L_y rfl (y_move rfl) rfl ?_
  refine L_y rfl (y_loadA rfl ag_23 sz_23 (sees 11 0 rfl) (Nat.le_of_ble_eq_true rfl) rfl) rfl ?_
  refine L_y rfl (y_loadA rfl ag_35 sz_35 (sees 1 0 rfl) (Nat.le_of_ble_eq_true rfl) rfl) rfl ?_
  refine L_op rfl (op_call rfl rfl (fun a w => Try.call17 a w) rfl ?_)
  refine (FnS.sub (hsub_pick [0] rfl) (gain_y (ns := [3]) hX (holds_sl2 geb (s := 1) rfl hgb) (by decide) 1 (by decide) (by decide) (by decide))).mono ?_
  rw [show (max ((2 : Int) - ((gset 4 2 [(1, 2), (2, 3), (3, 4)] 1 [3]).length : Int)) 0) = 1 from by decide +kernel]
  rintro _ _ ⟨rfl, rfl⟩
  refine ⟨_, rfl, ?_⟩
  refine L_y rfl (y_eqi rfl rfl) rfl ?_
  refine L_y rfl (y_pick_t rfl rfl) rfl ?_
  refine L_y rfl (y_assign rfl) rfl ?_
  refine L_nil ?_
  refine C_ret ?_
  refine B_ret (rv_tmp rfl rv_nil) (hsub (.cons _ (.cons _ (.cons _ (.cons _ (.cons _ (.cons _ (.cons _ (.cons _ (.cons _ (.cons _ (.cons _ (.cons _ (.refl _)))))))))))))) ?_
  exact ⟨rfl, rfl⟩

end Go.Proofs.Ytighbhplfjjgpaa

/- Facts of the translation's types, for the kernel (own work, by a program of this repo). -/
namespace Go.Proofs.Ytighbhplfjjgpaa
open Go.Sl
end Go.Proofs.Ytighbhplfjjgpaa

/- walks (own work; the walks' lines by a program of this repo). -/
set_option linter.unusedVariables false
set_option linter.unusedSimpArgs false
set_option maxRecDepth 20000
namespace Go.Proofs.Ytighbhplfjjgpaa
open Go.Sl
attribute [local irreducible] BodyQ WpC WpL WpS WpH OpW FnS


end Go.Proofs.Ytighbhplfjjgpaa

/- The document's numbers and victim, as plain lists (own work). -/
set_option linter.unusedVariables false
set_option linter.unusedSimpArgs false
namespace Go.Sl
/-- The victim, as a number; -1: none. -/
def vicI (p : Nat → Bool) (c : Nat → Nat) (k : Nat) : Int := match vic p c k with | some b => (b : Int) | none => -1
def vicF (p : Nat → Bool) (c : Nat → Nat) (k : Nat) : Int := match vic p c k with | some b => (c b : Int) | none => 0
section
variable {p : Nat → Bool} {c : Nat → Nat} {k b : Nat}
end
/-- The used ones but the head. -/
def butK (lu : List Bool) (head : Int) (i : Nat) : List Bool := (List.range i).map fun k => lu.getD k false && !decide ((k : Int) = head)
/-- The document's choice. -/
def rch (segs size : Int) (l : Xl) (p : Nat → Bool) : Int := if mayG segs size then vicI p (fun j => cnt18 segs size l (j : Int)) segs.toNat else -1
end Go.Sl

/- What the laws of layer 18 ask of the plain list (own work). -/
set_option linter.unusedVariables false
set_option linter.unusedSimpArgs false
namespace Go.Sl
theorem xnums_mem {segs size : Int} {l : Xl} {s : Int} {n : Nat} : n ∈ xnums segs size l s ↔ ∃ a, (n, a) ∈ l ∧ ofS segs size a = some s := by
  unfold xnums
  simp only [List.mem_map, List.mem_filter, beq_iff_eq]
  constructor
  · rintro ⟨⟨m, a⟩, ⟨h1, h2⟩, rfl⟩
    exact ⟨a, h1, h2⟩
  · rintro ⟨a, h1, h2⟩
    exact ⟨(n, a), ⟨h1, h2⟩, rfl⟩
/-- How many lie in the segments ahead of k. -/
def cntB (segs size : Int) (l : Xl) (k : Nat) : Nat := (l.filter fun x => match ofS segs size x.2 with | some s => decide (s < (k : Int)) | none => false).length
/-- A map that has, of the numbers, only those told. -/
structure Gh (p : Nat → Prop) (G : Gm) : Prop where
  ok : G.ok
  only : ∀ n : Nat, G.get (n : Int) ≠ none → p n
theorem Gh.new (p : Nat → Prop) : Gh p Gm.new := ⟨Gm.new_ok, fun n h => absurd rfl h⟩
theorem Gh.put {p q : Nat → Prop} {G : Gm} (h : Gh p G) (n : Nat) (v : Value) (hq : ∀ m, p m ∨ m = n → q m) : Gh q (G.put (n : Int) v) where
  ok := Gm.put_ok h.ok _ _
  only m hm := by
    rw [Gm.get_put] at hm
    by_cases e : (m : Int) = (n : Int)
    · exact hq m (.inr (by omega))
    · rw [if_neg e] at hm
      exact hq m (.inl (h.only m hm))
theorem Gh.mono {p q : Nat → Prop} {G : Gm} (h : Gh p G) (hq : ∀ m, p m → q m) : Gh q G := ⟨h.ok, fun n hn => hq n (h.only n hn)⟩
/-- The numbers that were seen when j of segment k's are done. -/
def seenP (segs size : Int) (l : Xl) (k j : Nat) (n : Nat) : Prop := ∃ s : Int, n ∈ xnums segs size l s ∧ (s < (k : Int) ∨ s = (k : Int) ∧ ∃ i, i < j ∧ (xnums segs size l (k : Int))[i]? = some n)
/-! ### In whatever order -/
theorem xput_s {segs size : Int} {l : Xl} (hs : Xs l) (n : Nat) (a : Int) : Xs (xput segs size l n a false).1 := by
  unfold xput
  split
  · exact hs
  · split
    · exact hs
    · cases hf : xfind l n with
      | some b => exact hs
      | none => exact xins_s hs hf
/-! ### First occurrences -/
def fewL (ll : List A18) : List A18 := ll.foldl (fun acc c => if acc.any (fun d => d.2.1 == c.2.1) then acc else acc ++ [c]) []
def FnL (l : List A18) : Prop := ∀ x ∈ l, ∀ y ∈ l, x.2.1 = y.2.1 → x = y
abbrev prA (x : A18) : Nat × Int := (x.2.1.toNat, x.2.2)
/-- The same ones, from another on. -/
def rotL (l : List A18) (k : Nat) : List A18 := (List.range l.length).filterMap fun i => l[(i + k) % l.length]?
/-- A map of numbers to true. -/
structure Gt (p : Nat → Bool) (G : Gm) : Prop where
  ok : G.ok
  get : ∀ n : Nat, G.get (n : Int) = if p n then some (.bool true) else none
theorem Gt.new : Gt (fun _ => false) Gm.new := ⟨Gm.new_ok, fun n => rfl⟩
theorem Gt.put {p : Nat → Bool} {G : Gm} (h : Gt p G) (n : Nat) {q : Nat → Bool} (hq : ∀ m, q m = (p m || m == n)) : Gt q (G.put (n : Int) (.bool true)) where
  ok := Gm.put_ok h.ok _ _
  get m := by
    rw [Gm.get_put, hq]
    by_cases e : (m : Int) = (n : Int)
    · have : m = n := by omega
      rw [if_pos e]; simp [this]
    · have : ¬ m = n := by omega
      rw [if_neg e, h.get]; simp [this]
theorem Gt.look {p : Nat → Bool} {G : Gm} (h : Gt p G) (n : Nat) : (G.get (n : Int)).getD (.bool false) = .bool (p n) := by
  rw [h.get]
  cases p n <;> rfl
def fewP (l : List A18) (n : Nat) : Bool := l.any fun d => d.2.1.toNat == n
end Go.Sl

/- What the laws of layer 42 ask: the head, the room, what a plan empties (own work). -/
set_option linter.unusedVariables false
set_option linter.unusedSimpArgs false
namespace Go.Sl
section
variable {p q : Nat → Bool} {c : Nat → Nat} {n k b : Nat}
theorem vic_ex (hk : k < n) (hp : p k = true) : ∃ v, vic p c n = some v := by
  cases hv : vic p c n with
  | some v => exact ⟨v, rfl⟩
  | none => exact absurd hp (by rw [vic_spec.vic_none hv k hk]; decide)
end
theorem gset_none (segs size : Int) (l : Xl) (seg : Int) : ∀ (ms acc : List Nat), (∀ n ∈ ms, liesIn segs size l seg n = false) → ms.foldl (fun acc n => if liesIn segs size l seg n && !acc.contains n then acc ++ [n] else acc) acc = acc
  | [], acc, _ => rfl
  | m :: ms, acc, h => by
    rw [List.foldl_cons, if_neg (by rw [h m (List.mem_cons_self ..)]; simp)]
    exact gset_none segs size l seg ms acc fun n hn => h n (List.mem_cons_of_mem _ hn)
/-! ### Numbers that are moved to one sector -/
def mvL (segs size : Int) (l : Xl) (t : Int) (ns : List Nat) : Xl := ns.foldl (fun x n => (xput segs size x n t true).1) l
theorem mv_next {segs size : Int} {l : Xl} {t : Int} {ns : List Nat} {i n : Nat} (h : ns[i]? = some n) : mvL segs size l t (ns.take (i + 1)) = (xput segs size (mvL segs size l t (ns.take i)) n t true).1 := by
  unfold mvL
  rw [List.take_add_one, h, Option.toList_some, List.foldl_append]
  rfl
theorem xput_mv {segs size : Int} {l : Xl} {n : Nat} {t b s : Int} (h0 : n ≠ 0) (ht : ofS segs size t = some s) (hf : xfind l n = some b) : xput segs size l n t true = (xins (xdel l n) n t, 0) := by
  unfold xput
  rw [if_neg h0, if_neg (by rw [ht]; simp), hf]
  rfl
/-- What is found then. -/
theorem mv_find {segs size t s : Int} (ht : ofS segs size t = some s) : ∀ (ns : List Nat) (l : Xl), (∀ n ∈ ns, n ≠ 0 ∧ (xfind l n).isSome) → Xs l → Xs (mvL segs size l t ns) ∧ (mvL segs size l t ns).length = l.length ∧ ∀ k : Nat, xfind (mvL segs size l t ns) k = if k ∈ ns then some t else xfind l k
  | [], l, _, hs => ⟨hs, rfl, fun k => by simp [mvL]⟩
  | n :: ns, l, h, hs => by
    obtain ⟨h0, h1⟩ := h n (List.mem_cons_self ..)
    obtain ⟨b, hb⟩ := Option.isSome_iff_exists.1 h1
    have e := xput_mv (segs := segs) (size := size) h0 ht hb
    have hd : xfind (xdel l n) (n : Int) = none := by rw [xfind_del, if_pos rfl]
    have hfk : ∀ k : Nat, xfind (xins (xdel l n) n t) k = if k = n then some t else xfind l k := by
      intro k
      rw [xfind_ins hd, xfind_del]
      by_cases e : k = n
      · rw [if_pos (by omega), if_pos e]
      · rw [if_neg (by omega), if_neg (by omega), if_neg e]
    have hl : (xins (xdel l n) n t).length = l.length := by rw [xins_len]; exact xdel_len hs hb
    have ih := mv_find ht ns (xins (xdel l n) n t) (fun m hm => by
      have := h m (List.mem_cons_of_mem _ hm)
      refine ⟨this.1, ?_⟩
      rw [hfk]
      split
      · rfl
      · exact this.2) (xins_s (xdel_s hs) hd)
    have e2 : mvL segs size l t (n :: ns) = mvL segs size (xins (xdel l n) n t) t ns := by
      unfold mvL
      rw [List.foldl_cons, e]
    rw [e2]
    refine ⟨ih.1, ih.2.1.trans hl, fun k => ?_⟩
    rw [ih.2.2, hfk]
    by_cases e3 : k ∈ ns
    · rw [if_pos e3, if_pos (List.mem_cons_of_mem _ e3)]
    · rw [if_neg e3]
      by_cases e4 : k = n
      · rw [if_pos e4, if_pos (by rw [e4]; exact List.mem_cons_self ..)]
      · rw [if_neg e4, if_neg (by simp [e3, e4])]
/-- The segment that was emptied. -/
theorem mv_empty {segs size t s v : Int} (ht : ofS segs size t = some s) (hne : s ≠ v) {l : Xl} (hs : Xs l) (h0 : ∀ x ∈ l, x.1 ≠ 0) : cnt18 segs size (mvL segs size l t (xnums segs size l v)) v = 0 ∧ (mvL segs size l t (xnums segs size l v)).length = l.length ∧ gset segs size (mvL segs size l t (xnums segs size l v)) v (xnums segs size l v) = [] := by
  obtain ⟨a1, a2, a3⟩ := mv_find (segs := segs) (size := size) ht (xnums segs size l v) l (fun n hn => by
    obtain ⟨a, ha, _⟩ := xnums_mem.1 hn
    exact ⟨h0 _ ha, by rw [(xfind_mem hs).2 ha]; rfl⟩) hs
  refine ⟨?_, a2, ?_⟩
  · rw [← nums_len, List.length_eq_zero_iff]
    cases hx : xnums segs size (mvL segs size l t (xnums segs size l v)) v with
    | nil => rfl
    | cons n rest =>
      exfalso
      have hn : n ∈ xnums segs size (mvL segs size l t (xnums segs size l v)) v := by rw [hx]; exact List.mem_cons_self ..
      obtain ⟨a, ha, ho⟩ := xnums_mem.1 hn
      have hf := (xfind_mem a1).2 ha
      rw [a3] at hf
      split at hf
      · rw [← Option.some.inj hf, ht] at ho
        exact hne (Option.some.inj ho)
      · rename_i hno
        exact hno (xnums_mem.2 ⟨a, (xfind_mem hs).1 hf, ho⟩)
  · unfold gset
    rw [gset_none]
    intro n hn
    unfold liesIn
    rw [a3, if_pos hn]
    simp only [ht]
    exact decide_eq_false fun e => hne (Option.some.inj e)
/-! ### The law's cases -/
abbrev pqH (head : Int) (li : List Bool) : Nat → Bool := fun k : Nat => !decide ((k : Int) = head) && (decide (0 ≤ (k : Int)) && li.getD (k : Int).toNat false)
theorem of_first {segs size : Int} (hm : mayG segs size = true) {k : Nat} (hk : (k : Int) < segs) : ofS segs size (2 + (k : Int) * size) = some (k : Int) := by
  obtain ⟨h1, h2, h3, h4⟩ := mayG_spec hm
  have q3 : ((k : Int) + 1) * size ≤ segs * size := Int.mul_le_mul_of_nonneg_right (by omega) (by omega)
  have q4 : 0 ≤ (k : Int) * size := Int.mul_nonneg (by omega) (by omega)
  have q5 : ((k : Int) + 1) * size = (k : Int) * size + size := by rw [Int.add_mul, Int.one_mul]
  rw [ofS_yes hm (by omega) (by omega), show 2 + (k : Int) * size - 2 = (k : Int) * size by omega, Int.mul_ediv_cancel _ (by omega)]
theorem em_cases {li : List Bool} {c c2 : Nat → Nat} {n v : Nat} (hv : vic (pqH (-1) li) c n = some v) (h0 : c2 v = 0) : ∃ w, vic (pqH (-1) li) c2 n = some w ∧ w ≤ v ∧ c2 w = 0 := by
  obtain ⟨g1, g2, g3⟩ := vic_spec hv
  obtain ⟨w, hw⟩ := vic_ex (c := c2) g1 g2
  obtain ⟨k1, k2, k3⟩ := vic_spec hw
  have := k3 v g1 g2
  exact ⟨w, hw, this.2 (by omega), by omega⟩
end Go.Sl

/- walks (own work; the walks' lines by a program of this repo). -/
set_option linter.unusedVariables false
set_option linter.unusedSimpArgs false
set_option maxRecDepth 20000
namespace Go.Proofs.Ytighbhplfjjgpaa
open Go.Sl
attribute [local irreducible] BodyQ WpC WpL WpS WpH OpW FnS


theorem sector_s {w0 : World} {H : Hp} (segs size : Int) (hm : mayG segs size = true) (k : Nat) (hk : (k : Int) < segs) : FnS Try.prog w0 18 #[shV segs size, .int .i64 ((k : Nat) : Int), .int .i64 0] H (fun e H' => e = .returned (.tuple #[.int .i64 (2 + (k : Int) * size), .bool true]) ∧ H' = H) := by
  obtain ⟨m1, m2, m3, m4⟩ := mayG_spec hm
  obtain ⟨q1, q2⟩ := mul_bound hm
  have q3 : (k : Int) * size ≤ segs * size := Int.mul_le_mul_of_nonneg_right (by omega) (by omega)
  have q4 : 0 ≤ (k : Int) * size := Int.mul_nonneg (by omega) (by omega)
  refine FnS_intro (n := 38) (rs := [.tmp 6, .tmp 7]) (vs := [shV segs size, .int .i64 ((k : Nat) : Int), .int .i64 0]) Try.func18 rfl Try.ntmps18 rfl rfl ?_
  refine C_seq ?_
  refine C_region ?_
  refine L_op rfl (op_box rfl rfl rfl (fun B1 => ?_))
  refine L_y rfl (y_assign rfl) rfl ?_
  refine L_y rfl (y_assign rfl) rfl ?_
  refine L_nil ?_
  refine C_seq ?_
  refine C_seq ?_
  refine C_region ?_
  refine L_y rfl (y_loadA rfl ag_23 sz_23 (sees 0 0 rfl) (Nat.le_of_ble_eq_true rfl) rfl) rfl ?_
  refine L_op rfl (op_call rfl rfl (fun a w => Try.call45 a w) rfl ?_)
  refine (shmay_s segs size).mono ?_
  rintro _ _ ⟨rfl, e⟩
  obtain rfl := e.symm
  clear e
  rw [hm]
  refine ⟨_, rfl, ?_⟩
  refine L_y rfl (y_not rfl) rfl ?_
  refine L_y rfl (y_move rfl) rfl ?_
  refine L_y rfl (y_move rfl) rfl ?_
  refine L_y rfl (y_lss rfl rfl) rfl ?_
  refine L_y rfl (y_pick_f rfl rfl) rfl ?_
  refine L_y rfl (y_move rfl) rfl ?_
  refine L_case 15 rfl (fun hg1_8 => ?_) (fun hg1_8 => ?_)
  · exact absurd (of_decide_eq_true hg1_8) (by omega)
  · skip
    refine L_y rfl (y_move rfl) rfl ?_
    refine L_y rfl (y_fieldAddr rfl fl_23_0) rfl ?_
    refine L_y rfl (y_load rfl ag_3 (sees 0 0 rfl) rfl) rfl ?_
    refine L_y rfl (y_geq rfl rfl) rfl ?_
    refine L_y rfl (y_pick_f rfl rfl) rfl ?_
    refine L_y rfl (y_move rfl) rfl ?_
    refine L_case 21 rfl (fun hg1_14 => ?_) (fun hg1_14 => ?_)
    · exact absurd (of_decide_eq_true hg1_14) (by omega)
    · skip
      refine L_y rfl (y_move rfl) rfl ?_
      refine L_y rfl (y_lss rfl rfl) rfl ?_
      refine L_y rfl (y_pick_f rfl rfl) rfl ?_
      refine L_y rfl (y_move rfl) rfl ?_
      refine L_y rfl (y_move rfl) rfl ?_
      refine L_y rfl (y_fieldAddr rfl fl_23_1) rfl ?_
      refine L_y rfl (y_load rfl ag_3 (sees 0 0 rfl) rfl) rfl ?_
      refine L_y rfl (y_geq rfl rfl) rfl ?_
      refine L_y rfl (y_pick_f rfl rfl) rfl ?_
      refine L_nil ?_
      refine C_cond rfl (fun hc0 => absurd (of_decide_eq_true hc0) (by omega)) (fun hc0 => ?_)
      refine C_skip ?_
      refine C_seq ?_
      refine C_region ?_
      refine L_y rfl (y_move rfl) rfl ?_
      refine L_y rfl (y_fieldAddr rfl fl_23_1) rfl ?_
      refine L_y rfl (y_load rfl ag_3 (sees 0 0 rfl) rfl) rfl ?_
      refine L_y rfl (y_mul rfl rfl (wi64 (by omega) (by omega))) rfl ?_
      refine L_y rfl (y_add rfl rfl (wi64 (by omega) (by omega))) rfl ?_
      refine L_y rfl (y_move rfl) rfl ?_
      refine L_y rfl (y_add rfl rfl (show _ = (2 + (k : Int) * size) from by rw [wi64 (by omega) (by omega)]; omega)) rfl ?_
      refine L_y rfl (y_assign rfl) rfl ?_
      refine L_y rfl (y_assign rfl) rfl ?_
      refine L_nil ?_
      refine C_ret ?_
      refine B_ret (rv_tmp rfl (rv_tmp rfl rv_nil)) (hsub (.cons _ (.refl _))) ?_
      exact ⟨rfl, rfl⟩

theorem empties_40 {w0 : World} {H : Hp} {pa pi : Option Addr} {ca ci : Nat} {ll : Xl} {li : List Bool} (hA : Holds w0 H pa (lcs ll)) (hb : ∀ c ∈ ll, c.1 < 18446744073709551616) (hI : Holds w0 H pi (bos li)) (segs size : Int) (ff : Nat) (hff : ff < 256) (hl : 40 < ll.length) : FnS Try.prog w0 5 #[shV segs size, .slice pa ll.length ca, .slice pi li.length ci, .int .u8 (ff : Int)] H (fun e H' => e = .returned (.bool true)) := by
  refine FnS_intro (n := 132) (rs := [.tmp 8]) (vs := [shV segs size, .slice pa ll.length ca, .slice pi li.length ci, .int .u8 (ff : Int)]) Try.func5 rfl Try.ntmps5 rfl rfl ?_
  refine C_seq ?_
  refine C_region ?_
  refine L_op rfl (op_box rfl rfl rfl (fun B1 => ?_))
  refine L_y rfl (y_assign rfl) rfl ?_
  refine L_nil ?_
  refine C_seq ?_
  refine C_seq ?_
  refine C_region ?_
  refine L_op rfl (op_call rfl rfl (fun a w => Try.call8 a w) rfl ?_)
  refine (awake42_s).mono ?_
  rintro _ _ ⟨rfl, e⟩
  obtain rfl := e.symm
  clear e
  refine ⟨_, rfl, ?_⟩
  refine L_y rfl (y_not rfl) rfl ?_
  refine L_y rfl (y_move rfl) rfl ?_
  refine L_y rfl (y_move rfl) rfl ?_
  refine L_y rfl (y_lenS rfl rfl Try.underlying24) rfl ?_
  refine L_y rfl (y_gtr rfl rfl) rfl ?_
  refine L_y rfl (y_pick_f rfl rfl) rfl ?_
  refine L_y rfl (y_move rfl) rfl ?_
  refine L_case 28 rfl (fun hg1_8 => ?_) (fun hg1_8 => ?_)
  · skip
    refine L_skip rfl rfl ?_
    refine L_skip rfl rfl ?_
    refine L_skip rfl rfl ?_
    refine L_y rfl (y_pick_t rfl rfl) rfl ?_
    refine L_y rfl (y_move rfl) rfl ?_
    refine L_skip rfl rfl ?_
    refine L_skip rfl rfl ?_
    refine L_skip rfl rfl ?_
    refine L_y rfl (y_pick_t rfl rfl) rfl ?_
    refine L_y rfl (y_move rfl) rfl ?_
    refine L_skip rfl rfl ?_
    refine L_skip rfl rfl ?_
    refine L_skip rfl rfl ?_
    refine L_y rfl (y_pick_t rfl rfl) rfl ?_
    refine L_nil ?_
    refine C_cond_t rfl ?_
    refine C_seq ?_
    refine C_region ?_
    refine L_op rfl (op_call rfl rfl (fun a w => Try.call8 a w) rfl ?_)
    refine (awake42_s).mono ?_
    rintro _ _ ⟨rfl, e⟩
    obtain rfl := e.symm
    clear e
    refine ⟨_, rfl, ?_⟩
    refine L_y rfl (y_assign rfl) rfl ?_
    refine L_nil ?_
    refine C_ret ?_
    refine B_ret (rv_tmp rfl rv_nil) (HSub.refl _) ?_
    rfl
  · exact absurd (of_decide_eq_false hg1_8) (by omega)

theorem empties_no {w0 : World} {H : Hp} {pa pi : Option Addr} {ca ci : Nat} {ll : Xl} {li : List Bool} (hA : Holds w0 H pa (lcs ll)) (hb : ∀ c ∈ ll, c.1 < 18446744073709551616) (hI : Holds w0 H pi (bos li)) (segs size : Int) (ff : Nat) (hff : ff < 256) (hl : ¬ 40 < ll.length) (hm : mayG segs size = false) : FnS Try.prog w0 5 #[shV segs size, .slice pa ll.length ca, .slice pi li.length ci, .int .u8 (ff : Int)] H (fun e H' => e = .returned (.bool true)) := by
  refine FnS_intro (n := 132) (rs := [.tmp 8]) (vs := [shV segs size, .slice pa ll.length ca, .slice pi li.length ci, .int .u8 (ff : Int)]) Try.func5 rfl Try.ntmps5 rfl rfl ?_
  refine C_seq ?_
  refine C_region ?_
  refine L_op rfl (op_box rfl rfl rfl (fun B1 => ?_))
  refine L_y rfl (y_assign rfl) rfl ?_
  refine L_nil ?_
  refine C_seq ?_
  refine C_seq ?_
  refine C_region ?_
  refine L_op rfl (op_call rfl rfl (fun a w => Try.call8 a w) rfl ?_)
  refine (awake42_s).mono ?_
  rintro _ _ ⟨rfl, e⟩
  obtain rfl := e.symm
  clear e
  refine ⟨_, rfl, ?_⟩
  refine L_y rfl (y_not rfl) rfl ?_
  refine L_y rfl (y_move rfl) rfl ?_
  refine L_y rfl (y_move rfl) rfl ?_
  refine L_y rfl (y_lenS rfl rfl Try.underlying24) rfl ?_
  refine L_y rfl (y_gtr rfl rfl) rfl ?_
  refine L_y rfl (y_pick_f rfl rfl) rfl ?_
  refine L_y rfl (y_move rfl) rfl ?_
  refine L_case 28 rfl (fun hg1_8 => ?_) (fun hg1_8 => ?_)
  · exact absurd (of_decide_eq_true hg1_8) (by omega)
  · skip
    refine L_y rfl (y_loadA rfl ag_23 sz_23 (sees 0 0 rfl) (Nat.le_of_ble_eq_true rfl) rfl) rfl ?_
    refine L_op rfl (op_call rfl rfl (fun a w => Try.call9 a w) rfl ?_)
    refine (check_s segs size).mono ?_
    rintro _ _ ⟨rfl, e⟩
    obtain rfl := e.symm
    clear e
    rw [show chkE segs size = 2 from by unfold chkE; rw [hm]; rfl]
    refine ⟨_, rfl, ?_⟩
    refine L_y rfl (y_nei rfl rfl) rfl ?_
    refine L_y rfl (y_pick_f rfl rfl) rfl ?_
    refine L_y rfl (y_move rfl) rfl ?_
    refine L_skip rfl rfl ?_
    refine L_skip rfl rfl ?_
    refine L_skip rfl rfl ?_
    refine L_y rfl (y_pick_t rfl rfl) rfl ?_
    refine L_y rfl (y_move rfl) rfl ?_
    refine L_skip rfl rfl ?_
    refine L_skip rfl rfl ?_
    refine L_skip rfl rfl ?_
    refine L_y rfl (y_pick_t rfl rfl) rfl ?_
    refine L_nil ?_
    refine C_cond_t rfl ?_
    refine C_seq ?_
    refine C_region ?_
    refine L_op rfl (op_call rfl rfl (fun a w => Try.call8 a w) rfl ?_)
    refine (awake42_s).mono ?_
    rintro _ _ ⟨rfl, e⟩
    obtain rfl := e.symm
    clear e
    refine ⟨_, rfl, ?_⟩
    refine L_y rfl (y_assign rfl) rfl ?_
    refine L_nil ?_
    refine C_ret ?_
    refine B_ret (rv_tmp rfl rv_nil) (HSub.refl _) ?_
    rfl

theorem empties_20 {w0 : World} {H : Hp} {pa pi : Option Addr} {ca ci : Nat} {ll : Xl} {li : List Bool} (hA : Holds w0 H pa (lcs ll)) (hb : ∀ c ∈ ll, c.1 < 18446744073709551616) (hI : Holds w0 H pi (bos li)) (segs size : Int) (ff : Nat) (hff : ff < 256) (hl : ¬ 40 < ll.length) (hm : mayG segs size = true) (hi : 20 < segs ∨ 20 < li.length) : FnS Try.prog w0 5 #[shV segs size, .slice pa ll.length ca, .slice pi li.length ci, .int .u8 (ff : Int)] H (fun e H' => e = .returned (.bool true)) := by
  refine FnS_intro (n := 132) (rs := [.tmp 8]) (vs := [shV segs size, .slice pa ll.length ca, .slice pi li.length ci, .int .u8 (ff : Int)]) Try.func5 rfl Try.ntmps5 rfl rfl ?_
  refine C_seq ?_
  refine C_region ?_
  refine L_op rfl (op_box rfl rfl rfl (fun B1 => ?_))
  refine L_y rfl (y_assign rfl) rfl ?_
  refine L_nil ?_
  refine C_seq ?_
  refine C_seq ?_
  refine C_region ?_
  refine L_op rfl (op_call rfl rfl (fun a w => Try.call8 a w) rfl ?_)
  refine (awake42_s).mono ?_
  rintro _ _ ⟨rfl, e⟩
  obtain rfl := e.symm
  clear e
  refine ⟨_, rfl, ?_⟩
  refine L_y rfl (y_not rfl) rfl ?_
  refine L_y rfl (y_move rfl) rfl ?_
  refine L_y rfl (y_move rfl) rfl ?_
  refine L_y rfl (y_lenS rfl rfl Try.underlying24) rfl ?_
  refine L_y rfl (y_gtr rfl rfl) rfl ?_
  refine L_y rfl (y_pick_f rfl rfl) rfl ?_
  refine L_y rfl (y_move rfl) rfl ?_
  refine L_case 28 rfl (fun hg1_8 => ?_) (fun hg1_8 => ?_)
  · exact absurd (of_decide_eq_true hg1_8) (by omega)
  · skip
    refine L_y rfl (y_loadA rfl ag_23 sz_23 (sees 0 0 rfl) (Nat.le_of_ble_eq_true rfl) rfl) rfl ?_
    refine L_op rfl (op_call rfl rfl (fun a w => Try.call9 a w) rfl ?_)
    refine (check_s segs size).mono ?_
    rintro _ _ ⟨rfl, e⟩
    obtain rfl := e.symm
    clear e
    rw [show chkE segs size = 0 from by unfold chkE; rw [hm]; rfl]
    refine ⟨_, rfl, ?_⟩
    refine L_y rfl (y_nei rfl rfl) rfl ?_
    refine L_y rfl (y_pick_f rfl rfl) rfl ?_
    refine L_y rfl (y_move rfl) rfl ?_
    refine L_y rfl (y_fieldAddr rfl fl_23_0) rfl ?_
    refine L_y rfl (y_load rfl ag_3 (sees 0 0 rfl) rfl) rfl ?_
    refine L_y rfl (y_gtr rfl rfl) rfl ?_
    refine L_y rfl (y_pick_f rfl rfl) rfl ?_
    refine L_y rfl (y_move rfl) rfl ?_
    refine L_case 38 rfl (fun hg1_18 => ?_) (fun hg1_18 => ?_)
    · skip
      refine L_skip rfl rfl ?_
      refine L_skip rfl rfl ?_
      refine L_skip rfl rfl ?_
      refine L_y rfl (y_pick_t rfl rfl) rfl ?_
      refine L_nil ?_
      refine C_cond_t rfl ?_
      refine C_seq ?_
      refine C_region ?_
      refine L_op rfl (op_call rfl rfl (fun a w => Try.call8 a w) rfl ?_)
      refine (awake42_s).mono ?_
      rintro _ _ ⟨rfl, e⟩
      obtain rfl := e.symm
      clear e
      refine ⟨_, rfl, ?_⟩
      refine L_y rfl (y_assign rfl) rfl ?_
      refine L_nil ?_
      refine C_ret ?_
      refine B_ret (rv_tmp rfl rv_nil) (HSub.refl _) ?_
      rfl
    · have h18 := of_decide_eq_false hg1_18
      refine L_y rfl (y_move rfl) rfl ?_
      refine L_y rfl (y_lenS rfl rfl Try.underlying25) rfl ?_
      refine L_y rfl (y_gtr rfl rfl) rfl ?_
      refine L_y rfl (y_pick_f rfl rfl) rfl ?_
      refine L_nil ?_
      refine C_cond rfl (fun hc0 => ?_) (fun hc0 => absurd hc0 (by simp; omega))
      refine C_seq ?_
      refine C_region ?_
      refine L_op rfl (op_call rfl rfl (fun a w => Try.call8 a w) rfl ?_)
      refine (awake42_s).mono ?_
      rintro _ _ ⟨rfl, e⟩
      obtain rfl := e.symm
      clear e
      refine ⟨_, rfl, ?_⟩
      refine L_y rfl (y_assign rfl) rfl ?_
      refine L_nil ?_
      refine C_ret ?_
      refine B_ret (rv_tmp rfl rv_nil) (HSub.refl _) ?_
      rfl

set_option maxHeartbeats 1000000 in

theorem empties_n {w0 : World} {H : Hp} {pa pi : Option Addr} {ca ci : Nat} {ll : Xl} {li : List Bool} (hA : Holds w0 H pa (lcs ll)) (hb : ∀ c ∈ ll, c.1 < 18446744073709551616) (hI : Holds w0 H pi (bos li)) (segs size : Int) (ff : Nat) (hff : ff < 256) (hl : ¬ 40 < ll.length) (hm : mayG segs size = true) (hi : ¬ 20 < segs) (hi2 : ¬ 20 < li.length) (hv : vic (fun k : Nat => !decide ((k : Int) = -1) && (decide (0 ≤ (k : Int)) && li.getD (k : Int).toNat false)) (fun j => cnt18 segs size (laidL segs size ll) (j : Int)) segs.toNat = none) : FnS Try.prog w0 5 #[shV segs size, .slice pa ll.length ca, .slice pi li.length ci, .int .u8 (ff : Int)] H (fun e H' => e = .returned (.bool true)) := by
  refine FnS_intro (n := 132) (rs := [.tmp 8]) (vs := [shV segs size, .slice pa ll.length ca, .slice pi li.length ci, .int .u8 (ff : Int)]) Try.func5 rfl Try.ntmps5 rfl rfl ?_
  refine C_seq ?_
  refine C_region ?_
  refine L_op rfl (op_box rfl rfl rfl (fun B1 => ?_))
  refine L_y rfl (y_assign rfl) rfl ?_
  refine L_nil ?_
  refine C_seq ?_
  refine C_seq ?_
  refine C_region ?_
  refine L_op rfl (op_call rfl rfl (fun a w => Try.call8 a w) rfl ?_)
  refine (awake42_s).mono ?_
  rintro _ _ ⟨rfl, e⟩
  obtain rfl := e.symm
  clear e
  refine ⟨_, rfl, ?_⟩
  refine L_y rfl (y_not rfl) rfl ?_
  refine L_y rfl (y_move rfl) rfl ?_
  refine L_y rfl (y_move rfl) rfl ?_
  refine L_y rfl (y_lenS rfl rfl Try.underlying24) rfl ?_
  refine L_y rfl (y_gtr rfl rfl) rfl ?_
  refine L_y rfl (y_pick_f rfl rfl) rfl ?_
  refine L_y rfl (y_move rfl) rfl ?_
  refine L_case 28 rfl (fun hg1_8 => ?_) (fun hg1_8 => ?_)
  · exact absurd (of_decide_eq_true hg1_8) (by omega)
  · skip
    refine L_y rfl (y_loadA rfl ag_23 sz_23 (sees 0 0 rfl) (Nat.le_of_ble_eq_true rfl) rfl) rfl ?_
    refine L_op rfl (op_call rfl rfl (fun a w => Try.call9 a w) rfl ?_)
    refine (check_s segs size).mono ?_
    rintro _ _ ⟨rfl, e⟩
    obtain rfl := e.symm
    clear e
    rw [show chkE segs size = 0 from by unfold chkE; rw [hm]; rfl]
    refine ⟨_, rfl, ?_⟩
    refine L_y rfl (y_nei rfl rfl) rfl ?_
    refine L_y rfl (y_pick_f rfl rfl) rfl ?_
    refine L_y rfl (y_move rfl) rfl ?_
    refine L_y rfl (y_fieldAddr rfl fl_23_0) rfl ?_
    refine L_y rfl (y_load rfl ag_3 (sees 0 0 rfl) rfl) rfl ?_
    refine L_y rfl (y_gtr rfl rfl) rfl ?_
    refine L_y rfl (y_pick_f rfl rfl) rfl ?_
    refine L_y rfl (y_move rfl) rfl ?_
    refine L_case 38 rfl (fun hg1_18 => ?_) (fun hg1_18 => ?_)
    · exact absurd (of_decide_eq_true hg1_18) (by omega)
    · skip
      refine L_y rfl (y_move rfl) rfl ?_
      refine L_y rfl (y_lenS rfl rfl Try.underlying25) rfl ?_
      refine L_y rfl (y_gtr rfl rfl) rfl ?_
      refine L_y rfl (y_pick_f rfl rfl) rfl ?_
      refine L_nil ?_
      refine C_cond rfl (fun hc0 => absurd hc0 (by simp; omega)) (fun hc0 => ?_)
      refine C_skip ?_
      refine C_seq ?_
      refine C_region ?_
      refine L_y rfl (y_loadA rfl ag_23 sz_23 (sees 0 0 rfl) (Nat.le_of_ble_eq_true rfl) rfl) rfl ?_
      refine L_y rfl (y_move rfl) rfl ?_
      refine L_op rfl (op_call rfl rfl (fun a w => Try.call10 a w) rfl ?_)
      refine (laid_s (ll := ll) hA.up hb (by omega) segs size).mono ?_
      rintro _ _ ⟨o1, g1, A1, L1, hX, hg1, hgl, rfl, rfl⟩
      refine ⟨_, rfl, ?_⟩
      refine L_y rfl (y_move rfl) rfl ?_
      refine L_y rfl (y_extract rfl rfl) rfl ?_
      refine L_y rfl (y_extract rfl rfl) rfl ?_
      refine L_y rfl (y_assign rfl) rfl ?_
      refine L_y rfl (y_assign rfl) rfl ?_
      refine L_nil ?_
      refine C_seq ?_
      refine C_region ?_
      refine L_y rfl (y_move rfl) rfl ?_
      refine L_op rfl (op_call rfl rfl (fun a w => Try.call15 a w) rfl ?_)
      refine (FnS.sub (hsub_pick [0] rfl) (xlen_s hX)).mono ?_
      rintro _ _ ⟨rfl, rfl⟩
      refine ⟨_, rfl, ?_⟩
      refine L_y rfl (y_assign rfl) rfl ?_
      refine L_nil ?_
      refine C_seq ?_
      refine C_region ?_
      refine L_y rfl (y_move rfl) rfl ?_
      refine L_y rfl (y_move rfl) rfl ?_
      refine L_op rfl (op_call rfl rfl (fun a w => Try.call12 a w) rfl ?_)
      refine used42_s.mono ?_
      rintro _ _ ⟨uba, rfl, rfl⟩
      refine ⟨_, rfl, ?_⟩
      refine L_op rfl (op_call rfl rfl (fun a w => Try.call11 a w) rfl ?_)
      refine (FnS.sub (hsub_pick [1] rfl) (choose_no hX (fu := 42) (cu := [ptr uba]) (p := (fun k : Nat => decide (0 ≤ (k : Int)) && li.getD (k : Int).toNat false)) (-1) (fun a w => Try.call42 a w) (fun k hk H1 hs => used421_s (l := li) (Sees.sub (by exact sees 0 0 rfl) hs) ((hI.up.up.up).sub hs) (by omega) k) (.inr hv))).mono ?_
      rintro _ _ ⟨rfl, rfl⟩
      refine ⟨_, rfl, ?_⟩
      refine L_y rfl (y_move rfl) rfl ?_
      refine L_y rfl (y_extract rfl rfl) rfl ?_
      refine L_y rfl (y_extract rfl rfl) rfl ?_
      refine L_op rfl (op_alloc zl_35 rfl (fun B2 => ?_))
      refine L_op rfl (op_store 0 0 rfl rfl rfl sz_35 rfl rfl (ones rfl) (by decide) ?_)
      skip
      refine L_y rfl (y_assign rfl) rfl ?_
      refine L_nil ?_
      refine C_seq ?_
      refine C_seq ?_
      refine C_region ?_
      refine L_y rfl (y_move rfl) rfl ?_
      refine L_y rfl (y_not rfl) rfl ?_
      refine L_nil ?_
      refine C_cond_t rfl ?_
      refine C_seq ?_
      refine C_region ?_
      refine L_y rfl (y_assign rfl) rfl ?_
      refine L_nil ?_
      refine C_ret ?_
      refine B_ret (rv_tmp rfl rv_nil) (HSub.refl _) ?_
      rfl

set_option maxHeartbeats 1000000 in

theorem empties_o {w0 : World} {H : Hp} {pa pi : Option Addr} {ca ci : Nat} {ll : Xl} {li : List Bool} (hA : Holds w0 H pa (lcs ll)) (hb : ∀ c ∈ ll, c.1 < 18446744073709551616) (hI : Holds w0 H pi (bos li)) (segs size : Int) (ff : Nat) (hff : ff < 256) (hl : ¬ 40 < ll.length) (hm : mayG segs size = true) (hi : ¬ 20 < segs) (hi2 : ¬ 20 < li.length) {nn v : Nat} (hnn : (nn : Int) = (ff : Int) % segs) (hns : (nn : Int) < segs) (hv : vic (fun k : Nat => !decide ((k : Int) = -1) && (decide (0 ≤ (k : Int)) && li.getD (k : Int).toNat false)) (fun j => cnt18 segs size (laidL segs size ll) (j : Int)) segs.toNat = some v) (he : nn = v) : FnS Try.prog w0 5 #[shV segs size, .slice pa ll.length ca, .slice pi li.length ci, .int .u8 (ff : Int)] H (fun e H' => e = .returned (.bool true)) := by
  obtain ⟨m1, m2, m3, m4⟩ := mayG_spec hm
  have hck := cnt_le segs size (laidL segs size ll) (v : Int)
  refine FnS_intro (n := 132) (rs := [.tmp 8]) (vs := [shV segs size, .slice pa ll.length ca, .slice pi li.length ci, .int .u8 (ff : Int)]) Try.func5 rfl Try.ntmps5 rfl rfl ?_
  refine C_seq ?_
  refine C_region ?_
  refine L_op rfl (op_box rfl rfl rfl (fun B1 => ?_))
  refine L_y rfl (y_assign rfl) rfl ?_
  refine L_nil ?_
  refine C_seq ?_
  refine C_seq ?_
  refine C_region ?_
  refine L_op rfl (op_call rfl rfl (fun a w => Try.call8 a w) rfl ?_)
  refine (awake42_s).mono ?_
  rintro _ _ ⟨rfl, e⟩
  obtain rfl := e.symm
  clear e
  refine ⟨_, rfl, ?_⟩
  refine L_y rfl (y_not rfl) rfl ?_
  refine L_y rfl (y_move rfl) rfl ?_
  refine L_y rfl (y_move rfl) rfl ?_
  refine L_y rfl (y_lenS rfl rfl Try.underlying24) rfl ?_
  refine L_y rfl (y_gtr rfl rfl) rfl ?_
  refine L_y rfl (y_pick_f rfl rfl) rfl ?_
  refine L_y rfl (y_move rfl) rfl ?_
  refine L_case 28 rfl (fun hg1_8 => ?_) (fun hg1_8 => ?_)
  · exact absurd (of_decide_eq_true hg1_8) (by omega)
  · skip
    refine L_y rfl (y_loadA rfl ag_23 sz_23 (sees 0 0 rfl) (Nat.le_of_ble_eq_true rfl) rfl) rfl ?_
    refine L_op rfl (op_call rfl rfl (fun a w => Try.call9 a w) rfl ?_)
    refine (check_s segs size).mono ?_
    rintro _ _ ⟨rfl, e⟩
    obtain rfl := e.symm
    clear e
    rw [show chkE segs size = 0 from by unfold chkE; rw [hm]; rfl]
    refine ⟨_, rfl, ?_⟩
    refine L_y rfl (y_nei rfl rfl) rfl ?_
    refine L_y rfl (y_pick_f rfl rfl) rfl ?_
    refine L_y rfl (y_move rfl) rfl ?_
    refine L_y rfl (y_fieldAddr rfl fl_23_0) rfl ?_
    refine L_y rfl (y_load rfl ag_3 (sees 0 0 rfl) rfl) rfl ?_
    refine L_y rfl (y_gtr rfl rfl) rfl ?_
    refine L_y rfl (y_pick_f rfl rfl) rfl ?_
    refine L_y rfl (y_move rfl) rfl ?_
    refine L_case 38 rfl (fun hg1_18 => ?_) (fun hg1_18 => ?_)
    · exact absurd (of_decide_eq_true hg1_18) (by omega)
    · skip
      refine L_y rfl (y_move rfl) rfl ?_
      refine L_y rfl (y_lenS rfl rfl Try.underlying25) rfl ?_
      refine L_y rfl (y_gtr rfl rfl) rfl ?_
      refine L_y rfl (y_pick_f rfl rfl) rfl ?_
      refine L_nil ?_
      refine C_cond rfl (fun hc0 => absurd hc0 (by simp; omega)) (fun hc0 => ?_)
      refine C_skip ?_
      refine C_seq ?_
      refine C_region ?_
      refine L_y rfl (y_loadA rfl ag_23 sz_23 (sees 0 0 rfl) (Nat.le_of_ble_eq_true rfl) rfl) rfl ?_
      refine L_y rfl (y_move rfl) rfl ?_
      refine L_op rfl (op_call rfl rfl (fun a w => Try.call10 a w) rfl ?_)
      refine (laid_s (ll := ll) hA.up hb (by omega) segs size).mono ?_
      rintro _ _ ⟨o1, g1, A1, L1, hX, hg1, hgl, rfl, rfl⟩
      refine ⟨_, rfl, ?_⟩
      refine L_y rfl (y_move rfl) rfl ?_
      refine L_y rfl (y_extract rfl rfl) rfl ?_
      refine L_y rfl (y_extract rfl rfl) rfl ?_
      refine L_y rfl (y_assign rfl) rfl ?_
      refine L_y rfl (y_assign rfl) rfl ?_
      refine L_nil ?_
      refine C_seq ?_
      refine C_region ?_
      refine L_y rfl (y_move rfl) rfl ?_
      refine L_op rfl (op_call rfl rfl (fun a w => Try.call15 a w) rfl ?_)
      refine (FnS.sub (hsub_pick [0] rfl) (xlen_s hX)).mono ?_
      rintro _ _ ⟨rfl, rfl⟩
      refine ⟨_, rfl, ?_⟩
      refine L_y rfl (y_assign rfl) rfl ?_
      refine L_nil ?_
      refine C_seq ?_
      refine C_region ?_
      refine L_y rfl (y_move rfl) rfl ?_
      refine L_y rfl (y_move rfl) rfl ?_
      refine L_op rfl (op_call rfl rfl (fun a w => Try.call12 a w) rfl ?_)
      refine used42_s.mono ?_
      rintro _ _ ⟨uba, rfl, rfl⟩
      refine ⟨_, rfl, ?_⟩
      refine L_op rfl (op_call rfl rfl (fun a w => Try.call11 a w) rfl ?_)
      refine (FnS.sub (hsub_pick [1] rfl) (choose_y hX (fu := 42) (cu := [ptr uba]) (p := (fun k : Nat => decide (0 ≤ (k : Int)) && li.getD (k : Int).toNat false)) (-1) (fun a w => Try.call42 a w) (fun k hk H1 hs => used421_s (l := li) (Sees.sub (by exact sees 0 0 rfl) hs) ((hI.up.up.up).sub hs) (by omega) k) hm (v := v) hv (by omega))).mono ?_
      rintro _ _ ⟨ga, hga, rfl, rfl⟩
      obtain ⟨aa, ca, ea, _⟩ := holds_sl (w0 := w0) (H := [slSeg 48 ga (us (xnums segs size (laidL segs size ll) (v : Int)))]) (s := 0) rfl hga
      rw [ea]
      refine ⟨_, rfl, ?_⟩
      refine L_y rfl (y_move rfl) rfl ?_
      refine L_y rfl (y_extract rfl rfl) rfl ?_
      refine L_y rfl (y_extract rfl rfl) rfl ?_
      refine L_op rfl (op_alloc zl_35 rfl (fun B2 => ?_))
      refine L_op rfl (op_store 0 0 rfl rfl rfl sz_35 rfl rfl (ones rfl) (by decide) ?_)
      skip
      refine L_y rfl (y_assign rfl) rfl ?_
      refine L_nil ?_
      refine C_seq ?_
      refine C_seq ?_
      refine C_region ?_
      refine L_y rfl (y_move rfl) rfl ?_
      refine L_y rfl (y_not rfl) rfl ?_
      refine L_nil ?_
      refine C_cond_f rfl ?_
      refine C_skip ?_
      refine C_seq ?_
      refine C_region ?_
      refine L_y rfl (y_move rfl) rfl ?_
      refine L_y rfl (y_conv rfl us_5 Try.underlying3 (show _ = ((ff : Nat) : Int) from by rw [wi64 (by omega) (by omega)])) rfl ?_
      refine L_y rfl (y_fieldAddr rfl fl_23_0) rfl ?_
      refine L_y rfl (y_load rfl ag_3 (sees 5 0 rfl) rfl) rfl ?_
      refine L_y rfl (y_rem rfl rfl (by omega) (show _ = ((nn : Nat) : Int) from by rw [Int.tmod_eq_emod_of_nonneg (by omega)]; exact hnn.symm)) rfl ?_
      refine L_y rfl (y_assign rfl) rfl ?_
      refine L_nil ?_
      refine C_seq ?_
      refine C_seq ?_
      refine C_region ?_
      refine L_y rfl (y_move rfl) rfl ?_
      refine L_y rfl (y_fieldAddr rfl fl_35_0) rfl ?_
      refine L_y rfl (y_load rfl ag_3 (sees 0 0 rfl) rfl) rfl ?_
      refine L_y rfl (y_eqi rfl rfl) rfl ?_
      refine L_nil ?_
      refine C_cond rfl (fun hc2 => ?_) (fun hc2 => absurd (show (nn : Int) = (v : Int) from by omega) (of_decide_eq_false hc2))
      refine C_seq ?_
      refine C_region ?_
      refine L_y rfl (y_assign rfl) rfl ?_
      refine L_nil ?_
      refine C_ret ?_
      refine B_ret (rv_tmp rfl rv_nil) (HSub.refl _) ?_
      rfl

set_option maxHeartbeats 4000000 in

theorem empties_y {w0 : World} {H : Hp} {pa pi : Option Addr} {ca ci : Nat} {ll : Xl} {li : List Bool} (hA : Holds w0 H pa (lcs ll)) (hb : ∀ c ∈ ll, c.1 < 18446744073709551616) (hI : Holds w0 H pi (bos li)) (segs size : Int) (ff : Nat) (hff : ff < 256) (hl : ¬ 40 < ll.length) (hm : mayG segs size = true) (hi : ¬ 20 < segs) (hi2 : ¬ 20 < li.length) {nn v : Nat} (hnn : (nn : Int) = (ff : Int) % segs) (hns : (nn : Int) < segs) (hv : vic (fun k : Nat => !decide ((k : Int) = -1) && (decide (0 ≤ (k : Int)) && li.getD (k : Int).toNat false)) (fun j => cnt18 segs size (laidL segs size ll) (j : Int)) segs.toNat = some v) (hne : ¬ nn = v) (hvs : (v : Int) < segs) (hto : ofS segs size (2 + (nn : Int) * size) = some (nn : Int)) (hwx : cnt18 segs size (mvL segs size (laidL segs size ll) (2 + (nn : Int) * size) (xnums segs size (laidL segs size ll) (v : Int))) (v : Int) = 0 → ∃ w, vic (fun k : Nat => !decide ((k : Int) = -1) && (decide (0 ≤ (k : Int)) && li.getD (k : Int).toNat false)) (fun j => cnt18 segs size (mvL segs size (laidL segs size ll) (2 + (nn : Int) * size) (xnums segs size (laidL segs size ll) (v : Int))) (j : Int)) segs.toNat = some w ∧ w ≤ v ∧ cnt18 segs size (mvL segs size (laidL segs size ll) (2 + (nn : Int) * size) (xnums segs size (laidL segs size ll) (v : Int))) (w : Int) = 0) : FnS Try.prog w0 5 #[shV segs size, .slice pa ll.length ca, .slice pi li.length ci, .int .u8 (ff : Int)] H (fun e H' => e = .returned (.bool true)) := by
  obtain ⟨m1, m2, m3, m4⟩ := mayG_spec hm
  have hck := cnt_le segs size (laidL segs size ll) (v : Int)
  refine FnS_intro (n := 132) (rs := [.tmp 8]) (vs := [shV segs size, .slice pa ll.length ca, .slice pi li.length ci, .int .u8 (ff : Int)]) Try.func5 rfl Try.ntmps5 rfl rfl ?_
  refine C_seq ?_
  refine C_region ?_
  refine L_op rfl (op_box rfl rfl rfl (fun B1 => ?_))
  refine L_y rfl (y_assign rfl) rfl ?_
  refine L_nil ?_
  refine C_seq ?_
  refine C_seq ?_
  refine C_region ?_
  refine L_op rfl (op_call rfl rfl (fun a w => Try.call8 a w) rfl ?_)
  refine (awake42_s).mono ?_
  rintro _ _ ⟨rfl, e⟩
  obtain rfl := e.symm
  clear e
  refine ⟨_, rfl, ?_⟩
  refine L_y rfl (y_not rfl) rfl ?_
  refine L_y rfl (y_move rfl) rfl ?_
  refine L_y rfl (y_move rfl) rfl ?_
  refine L_y rfl (y_lenS rfl rfl Try.underlying24) rfl ?_
  refine L_y rfl (y_gtr rfl rfl) rfl ?_
  refine L_y rfl (y_pick_f rfl rfl) rfl ?_
  refine L_y rfl (y_move rfl) rfl ?_
  refine L_case 28 rfl (fun hg1_8 => ?_) (fun hg1_8 => ?_)
  · exact absurd (of_decide_eq_true hg1_8) (by omega)
  · skip
    refine L_y rfl (y_loadA rfl ag_23 sz_23 (sees 0 0 rfl) (Nat.le_of_ble_eq_true rfl) rfl) rfl ?_
    refine L_op rfl (op_call rfl rfl (fun a w => Try.call9 a w) rfl ?_)
    refine (check_s segs size).mono ?_
    rintro _ _ ⟨rfl, e⟩
    obtain rfl := e.symm
    clear e
    rw [show chkE segs size = 0 from by unfold chkE; rw [hm]; rfl]
    refine ⟨_, rfl, ?_⟩
    refine L_y rfl (y_nei rfl rfl) rfl ?_
    refine L_y rfl (y_pick_f rfl rfl) rfl ?_
    refine L_y rfl (y_move rfl) rfl ?_
    refine L_y rfl (y_fieldAddr rfl fl_23_0) rfl ?_
    refine L_y rfl (y_load rfl ag_3 (sees 0 0 rfl) rfl) rfl ?_
    refine L_y rfl (y_gtr rfl rfl) rfl ?_
    refine L_y rfl (y_pick_f rfl rfl) rfl ?_
    refine L_y rfl (y_move rfl) rfl ?_
    refine L_case 38 rfl (fun hg1_18 => ?_) (fun hg1_18 => ?_)
    · exact absurd (of_decide_eq_true hg1_18) (by omega)
    · skip
      refine L_y rfl (y_move rfl) rfl ?_
      refine L_y rfl (y_lenS rfl rfl Try.underlying25) rfl ?_
      refine L_y rfl (y_gtr rfl rfl) rfl ?_
      refine L_y rfl (y_pick_f rfl rfl) rfl ?_
      refine L_nil ?_
      refine C_cond rfl (fun hc0 => absurd hc0 (by simp; omega)) (fun hc0 => ?_)
      refine C_skip ?_
      refine C_seq ?_
      refine C_region ?_
      refine L_y rfl (y_loadA rfl ag_23 sz_23 (sees 0 0 rfl) (Nat.le_of_ble_eq_true rfl) rfl) rfl ?_
      refine L_y rfl (y_move rfl) rfl ?_
      refine L_op rfl (op_call rfl rfl (fun a w => Try.call10 a w) rfl ?_)
      refine (laid_s (ll := ll) hA.up hb (by omega) segs size).mono ?_
      rintro _ _ ⟨o1, g1, A1, L1, hX, hg1, hgl, rfl, rfl⟩
      refine ⟨_, rfl, ?_⟩
      refine L_y rfl (y_move rfl) rfl ?_
      refine L_y rfl (y_extract rfl rfl) rfl ?_
      refine L_y rfl (y_extract rfl rfl) rfl ?_
      refine L_y rfl (y_assign rfl) rfl ?_
      refine L_y rfl (y_assign rfl) rfl ?_
      refine L_nil ?_
      refine C_seq ?_
      refine C_region ?_
      refine L_y rfl (y_move rfl) rfl ?_
      refine L_op rfl (op_call rfl rfl (fun a w => Try.call15 a w) rfl ?_)
      refine (FnS.sub (hsub_pick [0] rfl) (xlen_s hX)).mono ?_
      rintro _ _ ⟨rfl, rfl⟩
      refine ⟨_, rfl, ?_⟩
      refine L_y rfl (y_assign rfl) rfl ?_
      refine L_nil ?_
      refine C_seq ?_
      refine C_region ?_
      refine L_y rfl (y_move rfl) rfl ?_
      refine L_y rfl (y_move rfl) rfl ?_
      refine L_op rfl (op_call rfl rfl (fun a w => Try.call12 a w) rfl ?_)
      refine used42_s.mono ?_
      rintro _ _ ⟨uba, rfl, rfl⟩
      refine ⟨_, rfl, ?_⟩
      refine L_op rfl (op_call rfl rfl (fun a w => Try.call11 a w) rfl ?_)
      refine (FnS.sub (hsub_pick [1] rfl) (choose_y hX (fu := 42) (cu := [ptr uba]) (p := (fun k : Nat => decide (0 ≤ (k : Int)) && li.getD (k : Int).toNat false)) (-1) (fun a w => Try.call42 a w) (fun k hk H1 hs => used421_s (l := li) (Sees.sub (by exact sees 0 0 rfl) hs) ((hI.up.up.up).sub hs) (by omega) k) hm (v := v) hv (by omega))).mono ?_
      rintro _ _ ⟨ga, hga, rfl, rfl⟩
      obtain ⟨aa, ca, ea, _⟩ := holds_sl (w0 := w0) (H := [slSeg 48 ga (us (xnums segs size (laidL segs size ll) (v : Int)))]) (s := 0) rfl hga
      rw [ea]
      refine ⟨_, rfl, ?_⟩
      refine L_y rfl (y_move rfl) rfl ?_
      refine L_y rfl (y_extract rfl rfl) rfl ?_
      refine L_y rfl (y_extract rfl rfl) rfl ?_
      refine L_op rfl (op_alloc zl_35 rfl (fun B2 => ?_))
      refine L_op rfl (op_store 0 0 rfl rfl rfl sz_35 rfl rfl (ones rfl) (by decide) ?_)
      skip
      refine L_y rfl (y_assign rfl) rfl ?_
      refine L_nil ?_
      refine C_seq ?_
      refine C_seq ?_
      refine C_region ?_
      refine L_y rfl (y_move rfl) rfl ?_
      refine L_y rfl (y_not rfl) rfl ?_
      refine L_nil ?_
      refine C_cond_f rfl ?_
      refine C_skip ?_
      refine C_seq ?_
      refine C_region ?_
      refine L_y rfl (y_move rfl) rfl ?_
      refine L_y rfl (y_conv rfl us_5 Try.underlying3 (show _ = ((ff : Nat) : Int) from by rw [wi64 (by omega) (by omega)])) rfl ?_
      refine L_y rfl (y_fieldAddr rfl fl_23_0) rfl ?_
      refine L_y rfl (y_load rfl ag_3 (sees 5 0 rfl) rfl) rfl ?_
      refine L_y rfl (y_rem rfl rfl (by omega) (show _ = ((nn : Nat) : Int) from by rw [Int.tmod_eq_emod_of_nonneg (by omega)]; exact hnn.symm)) rfl ?_
      refine L_y rfl (y_assign rfl) rfl ?_
      refine L_nil ?_
      refine C_seq ?_
      refine C_seq ?_
      refine C_region ?_
      refine L_y rfl (y_move rfl) rfl ?_
      refine L_y rfl (y_fieldAddr rfl fl_35_0) rfl ?_
      refine L_y rfl (y_load rfl ag_3 (sees 0 0 rfl) rfl) rfl ?_
      refine L_y rfl (y_eqi rfl rfl) rfl ?_
      refine L_nil ?_
      refine C_cond rfl (fun hc2 => absurd (of_decide_eq_true hc2) (by omega)) (fun hc2 => ?_)
      refine C_skip ?_
      refine C_seq ?_
      refine C_region ?_
      refine L_y rfl (y_loadA rfl ag_23 sz_23 (sees 5 0 rfl) (Nat.le_of_ble_eq_true rfl) rfl) rfl ?_
      refine L_y rfl (y_move rfl) rfl ?_
      refine L_op rfl (op_call rfl rfl (fun a w => Try.call18 a w) rfl ?_)
      refine (sector_s segs size hm nn hns).mono ?_
      rintro _ _ ⟨rfl, e⟩
      obtain rfl := e.symm
      clear e
      refine ⟨_, rfl, ?_⟩
      refine L_y rfl (y_move rfl) rfl ?_
      refine L_y rfl (y_extract rfl rfl) rfl ?_
      refine L_y rfl (y_extract rfl rfl) rfl ?_
      refine L_y rfl (y_assign rfl) rfl ?_
      refine L_y rfl (y_assign rfl) rfl ?_
      refine L_nil ?_
      refine C_seq ?_
      refine C_seq ?_
      have hall : ∀ n ∈ (xnums segs size (laidL segs size ll) (v : Int)), n ≠ 0 ∧ (xfind (laidL segs size ll) n).isSome := by
        intro n hn
        obtain ⟨a, ha, _⟩ := xnums_mem.1 hn
        have := (hX.valid _ ha).1
        exact ⟨by simp only at this; omega, by rw [(xfind_mem hX.s).2 ha]; rfl⟩
      refine C_region ?_
      refine L_y rfl (y_fieldAddr rfl fl_35_1) rfl ?_
      refine L_y rfl (y_load rfl ag_33 (sees 0 0 rfl) rfl) rfl ?_
      refine L_y rfl (y_lenS rfl rfl Try.underlying33) rfl ?_
      refine L_y rfl (y_move rfl) rfl ?_
      refine L_nil ?_
      refine C_block ?_
      refine C_loop (ι := Nat × Gm × Gm) (fun i => [(2, .slice pi li.length ci), (4, ptr B1), (9, ptr o1.b), (11, .int .i64 ((laidL segs size ll).length : Int)), (12, ptr B2), (15, .int .i64 (2 + (nn : Int) * size)), (77, .slice aa (xnums segs size (laidL segs size ll) (v : Int)).length ca), (78, .int .i64 ((xnums segs size (laidL segs size ll) (v : Int)).length : Int)), (79, .int .i64 (i.1 : Int))]) (fun i => o1.seg 90 segs size i.2.1 i.2.2 :: slSeg 48 ga (us (xnums segs size (laidL segs size ll) (v : Int))) :: [(B1, .cells [Value.int .i64 segs, .int .i64 size].toArray 23)] :: [(B2, .cells [Value.int .i64 (v : Int), .slice aa (xnums segs size (laidL segs size ll) (v : Int)).length ca].toArray 35)] :: H) (fun i => i.1 ≤ (xnums segs size (laidL segs size ll) (v : Int)).length ∧ Xm segs size (mvL segs size (laidL segs size ll) (2 + (nn : Int) * size) ((xnums segs size (laidL segs size ll) (v : Int)).take i.1)) i.2.1 i.2.2) (fun i => (xnums segs size (laidL segs size ll) (v : Int)).length - i.1) (0, A1, L1) ⟨Nat.zero_le _, hX⟩ ⟨rfl, rfl, rfl, rfl, rfl, rfl, rfl, rfl, rfl, trivial⟩ ((hsub (.cons_cons _ (.cons_cons _ (.cons_cons _ (.cons_cons _ (.cons _ (.cons _ (.refl _)))))))).trans (hsub_pick [2, 1, 3, 0] rfl)) (fun i hi => ?_)
      obtain ⟨i, A2, L2⟩ := i
      obtain ⟨hi, hX2⟩ := hi
      try simp only at hi hX2
      try dsimp only
      obtain ⟨_, hmvl, _⟩ := mv_find (segs := segs) (size := size) hto ((xnums segs size (laidL segs size ll) (v : Int)).take i) (laidL segs size ll) (fun n hn => hall n (List.mem_of_mem_take hn)) hX.s
      refine C_seq ?_
      refine C_region ?_
      refine L_y rfl (y_lss rfl rfl) rfl ?_
      refine L_nil ?_
      refine C_seq ?_
      refine C_cond rfl (fun hc3 => ?_) (fun hc3 => ?_)
      · replace hc3 : i < (xnums segs size (laidL segs size ll) (v : Int)).length := by have := of_decide_eq_true hc3; omega
        obtain ⟨x, hx⟩ : ∃ x, (xnums segs size (laidL segs size ll) (v : Int))[i]? = some x := ⟨_, List.getElem?_eq_getElem hc3⟩
        obtain ⟨xa, hxa, hxo⟩ := xnums_mem.1 (List.mem_of_getElem? hx)
        have hx0 := (hall x (List.mem_of_getElem? hx)).1
        have hmv : xput segs size (mvL segs size (laidL segs size ll) (2 + (nn : Int) * size) ((xnums segs size (laidL segs size ll) (v : Int)).take i)) x (2 + (nn : Int) * size) true = (xins (xdel (mvL segs size (laidL segs size ll) (2 + (nn : Int) * size) ((xnums segs size (laidL segs size ll) (v : Int)).take i)) x) x (2 + (nn : Int) * size), 0) := by
          obtain ⟨_, _, m3_⟩ := mv_find (segs := segs) (size := size) hto ((xnums segs size (laidL segs size ll) (v : Int)).take i) (laidL segs size ll) (fun n hn => hall n (List.mem_of_mem_take hn)) hX.s
          obtain ⟨b, hb_⟩ : ∃ b, xfind (mvL segs size (laidL segs size ll) (2 + (nn : Int) * size) ((xnums segs size (laidL segs size ll) (v : Int)).take i)) (x : Int) = some b := by
            rw [m3_]
            split
            · exact ⟨_, rfl⟩
            · exact Option.isSome_iff_exists.1 (hall x (List.mem_of_getElem? hx)).2
          exact xput_mv hx0 hto hb_
        have hN := holds_sl2 (w0 := w0) (H := slSeg 48 ga (us (xnums segs size (laidL segs size ll) (v : Int))) :: H) (s := 0) ea rfl hga
        obtain ⟨b1, o1_, l1, T1, fr1, rfl, hs1, hle1, hv1⟩ := hN (by rw [us_len]; omega)
        rw [us_len] at hle1
        have hxx : (xnums segs size (laidL segs size ll) (v : Int)).getD i 0 = x := by simp [List.getD, hx]
        refine C_skip ?_
        refine C_seq ?_
        refine C_block ?_
        refine C_seq ?_
        refine C_region ?_
        refine L_y rfl (y_indexS rfl rfl Try.underlying33 sz_48 (by omega) (by omega) (show _ = o1_ + i * 1 from by simp)) rfl ?_
        refine L_y rfl (y_load rfl ag_48 ((Sees.sub hs1 (HSub.trans (by exact hsub (.cons_cons _ (.cons _ (.cons _ (.refl _))))) (HSub.drop _ _)))) (show _ = some (Value.int .u64 (x : Int)) from by rw [← hxx]; exact us_hat hv1 hc3)) rfl ?_
        refine L_y rfl (y_assign rfl) rfl ?_
        refine L_nil ?_
        refine C_seq ?_
        refine C_region ?_
        refine L_y rfl (y_move rfl) rfl ?_
        refine L_y rfl (y_move rfl) rfl ?_
        refine L_y rfl (y_move rfl) rfl ?_
        refine L_op rfl (op_call rfl rfl (fun a w => Try.call19 a w) rfl ?_)
        refine (FnS.sub (hsub_pick [0] rfl) (xmove_s hX2 x (hX.valid _ hxa).2.1 (2 + (nn : Int) * size) (by omega))).mono ?_
        rw [hmv]
        rintro _ _ ⟨rfl, A3, L3, hX3, rfl⟩
        refine ⟨_, rfl, ?_⟩
        refine L_y rfl (y_nei rfl rfl) rfl ?_
        refine L_nil ?_
        refine C_cond_f rfl ?_
        refine C_skip ?_
        refine C_region ?_
        refine L_y rfl (y_add rfl rfl (show _ = ((i + 1 : Nat) : Int) from by rw [wi64 (by rw [nums_len] at hc3; omega) (by rw [nums_len] at hc3; omega)]; omega)) rfl ?_
        refine L_y rfl (y_move rfl) rfl ?_
        refine L_nil ?_
        exact ⟨(i + 1, A3, L3), ⟨by simp only; omega, by simp only; rw [mv_next hx, hmv]; exact hX3⟩, by simp only; omega, ⟨rfl, rfl, rfl, rfl, rfl, rfl, rfl, rfl, rfl, trivial⟩, ((hsub (.cons_cons _ (.cons_cons _ (.cons_cons _ (.cons_cons _ (.refl _)))))).trans (hsub_pick [0, 0, 0, 0] rfl))⟩
      · obtain rfl : i = (xnums segs size (laidL segs size ll) (v : Int)).length := by have := of_decide_eq_false hc3; omega
        rw [List.take_length] at hX2 hmvl
        obtain ⟨e1_, e2_, e3_⟩ := mv_empty (segs := segs) (size := size) (v := (v : Int)) hto (by omega) hX.s (fun y hy => by have := (hX.valid y hy).1; omega)
        refine C_exit ?_
        refine C_seq ?_
        obtain ⟨w, hw, hwv, hw0⟩ := hwx e1_
        have hck2 := cnt_le segs size (mvL segs size (laidL segs size ll) (2 + (nn : Int) * size) (xnums segs size (laidL segs size ll) (v : Int))) (w : Int)
        refine C_region ?_
        refine L_y rfl (y_move rfl) rfl ?_
        refine L_y rfl (y_move rfl) rfl ?_
        refine L_op rfl (op_call rfl rfl (fun a w => Try.call12 a w) rfl ?_)
        refine used42_s.mono ?_
        rintro _ _ ⟨ubb, rfl, rfl⟩
        refine ⟨_, rfl, ?_⟩
        refine L_op rfl (op_call rfl rfl (fun a w => Try.call11 a w) rfl ?_)
        refine (FnS.sub (hsub_pick [1] rfl) (choose_y hX2 (fu := 42) (cu := [ptr ubb]) (p := (fun k : Nat => decide (0 ≤ (k : Int)) && li.getD (k : Int).toNat false)) (-1) (fun a w => Try.call42 a w) (fun k hk H1 hs => used421_s (l := li) (Sees.sub (by exact sees 0 0 rfl) hs) ((hI.up.up.up.up).sub hs) (by omega) k) hm (v := w) hw (by omega))).mono ?_
        rintro _ _ ⟨gb, hgb, rfl, rfl⟩
        obtain ⟨ab, cb, eb, _⟩ := holds_sl (w0 := w0) (H := [slSeg 48 gb (us (xnums segs size (mvL segs size (laidL segs size ll) (2 + (nn : Int) * size) (xnums segs size (laidL segs size ll) (v : Int))) (w : Int)))]) (s := 0) rfl hgb
        rw [eb]
        refine ⟨_, rfl, ?_⟩
        refine L_y rfl (y_move rfl) rfl ?_
        refine L_y rfl (y_extract rfl rfl) rfl ?_
        refine L_y rfl (y_extract rfl rfl) rfl ?_
        refine L_op rfl (op_alloc zl_35 rfl (fun B3 => ?_))
        refine L_op rfl (op_store 0 0 rfl rfl rfl sz_35 rfl rfl (ones rfl) (by decide) ?_)
        skip
        refine L_y rfl (y_assign rfl) rfl ?_
        refine L_nil ?_
        refine C_seq ?_
        refine C_regionH0 (by kernel_rfl) ?_
        refine H_y 0 rfl (by kernel_rfl) (by kernel_rfl) (by kernel_rfl) (((hsub (.cons_cons _ (.cons_cons _ (.cons_cons _ (.cons_cons _ (.cons_cons _ (.cons_cons _ (.cons_cons _ (.refl _))))))))).trans (hsub_pick [0, 0, 0, 0, 0, 0, 0] rfl))) rfl (y_move rfl) rfl ?_
        refine H_y 1 rfl (by kernel_rfl) (by kernel_rfl) (by kernel_rfl) (((hsub (.cons_cons _ (.cons_cons _ (.cons_cons _ (.cons_cons _ (.cons_cons _ (.cons_cons _ (.cons_cons _ (.refl _))))))))).trans (hsub_pick [0, 0, 0, 0, 0, 0, 0] rfl))) rfl (y_fieldAddr rfl fl_35_0) rfl ?_
        refine H_y 2 rfl (by kernel_rfl) (by kernel_rfl) (by kernel_rfl) (((hsub (.cons_cons _ (.cons_cons _ (.cons_cons _ (.cons_cons _ (.cons_cons _ (.cons_cons _ (.cons_cons _ (.refl _))))))))).trans (hsub_pick [0, 0, 0, 0, 0, 0, 0] rfl))) rfl (y_load rfl ag_3 (sees 6 0 rfl) rfl) rfl ?_
        refine H_one 3 rfl (by kernel_rfl) rfl (op_call rfl rfl (fun a w => Try.call20 a w) rfl ?_)
        refine (FnS.sub (hsub_pick [2] rfl) (xlive_s hX2 (v : Int))).mono ?_
        rw [e1_]
        rintro _ _ ⟨rfl, rfl⟩
        refine ⟨_, rfl, ?_⟩
        refine ⟨((hsub (.cons_cons _ (.cons_cons _ (.cons_cons _ (.cons_cons _ (.cons_cons _ (.cons_cons _ (.cons_cons _ (.refl _))))))))).trans (hsub_pick [1, 1, 0, 0, 0, 0, 0] rfl)), ?_⟩
        refine H_y 4 rfl (by kernel_rfl) (by kernel_rfl) (by kernel_rfl) (((hsub (.cons_cons _ (.cons_cons _ (.cons_cons _ (.cons_cons _ (.cons_cons _ (.cons_cons _ (.cons_cons _ (.refl _))))))))).trans (hsub_pick [1, 1, 0, 0, 0, 0, 0] rfl))) rfl (y_eqi rfl rfl) rfl ?_
        refine H_y 5 rfl (by kernel_rfl) (by kernel_rfl) (by kernel_rfl) (((hsub (.cons_cons _ (.cons_cons _ (.cons_cons _ (.cons_cons _ (.cons_cons _ (.cons_cons _ (.cons_cons _ (.refl _))))))))).trans (hsub_pick [1, 1, 0, 0, 0, 0, 0] rfl))) rfl (y_move rfl) rfl ?_
        refine H_y 6 rfl (by kernel_rfl) (by kernel_rfl) (by kernel_rfl) (((hsub (.cons_cons _ (.cons_cons _ (.cons_cons _ (.cons_cons _ (.cons_cons _ (.cons_cons _ (.cons_cons _ (.refl _))))))))).trans (hsub_pick [1, 1, 0, 0, 0, 0, 0] rfl))) rfl (y_move rfl) rfl ?_
        refine H_y 8 rfl (by kernel_rfl) (by kernel_rfl) (by kernel_rfl) (((hsub (.cons_cons _ (.cons_cons _ (.cons_cons _ (.cons_cons _ (.cons_cons _ (.cons_cons _ (.cons_cons _ (.refl _))))))))).trans (hsub_pick [1, 1, 0, 0, 0, 0, 0] rfl))) rfl (y_move rfl) rfl ?_
        refine H_one 7 rfl (by kernel_rfl) rfl (op_call rfl rfl (fun a w => Try.call15 a w) rfl ?_)
        refine (FnS.sub (hsub_pick [0] rfl) (xlen_s hX2)).mono ?_
        rw [e2_]
        rintro _ _ ⟨rfl, rfl⟩
        refine ⟨_, rfl, ?_⟩
        refine ⟨((hsub (.cons_cons _ (.cons_cons _ (.cons_cons _ (.cons_cons _ (.cons_cons _ (.cons_cons _ (.cons_cons _ (.refl _))))))))).trans (hsub_pick [1, 1, 0, 0, 0, 0, 0] rfl)), ?_⟩
        refine H_y 9 rfl (by kernel_rfl) (by kernel_rfl) (by kernel_rfl) (((hsub (.cons_cons _ (.cons_cons _ (.cons_cons _ (.cons_cons _ (.cons_cons _ (.cons_cons _ (.cons_cons _ (.refl _))))))))).trans (hsub_pick [1, 1, 0, 0, 0, 0, 0] rfl))) rfl (y_eqi rfl rfl) rfl ?_
        refine H_y 10 rfl (by kernel_rfl) (by kernel_rfl) (by kernel_rfl) (((hsub (.cons_cons _ (.cons_cons _ (.cons_cons _ (.cons_cons _ (.cons_cons _ (.cons_cons _ (.cons_cons _ (.refl _))))))))).trans (hsub_pick [1, 1, 0, 0, 0, 0, 0] rfl))) rfl (y_pick_t rfl rfl) rfl ?_
        refine H_y 11 rfl (by kernel_rfl) (by kernel_rfl) (by kernel_rfl) (((hsub (.cons_cons _ (.cons_cons _ (.cons_cons _ (.cons_cons _ (.cons_cons _ (.cons_cons _ (.cons_cons _ (.refl _))))))))).trans (hsub_pick [1, 1, 0, 0, 0, 0, 0] rfl))) rfl (y_move rfl) rfl ?_
        refine H_case 107 rfl (fun hg19_12 => ?_) (fun hg19_12 => ?_)
        · skip
          refine H_y 12 rfl (by kernel_rfl) (by kernel_rfl) (by kernel_rfl) (((hsub (.cons_cons _ (.cons_cons _ (.cons_cons _ (.cons_cons _ (.cons_cons _ (.cons_cons _ (.cons_cons _ (.refl _))))))))).trans (hsub_pick [1, 1, 0, 0, 0, 0, 0] rfl))) rfl (y_move rfl) rfl ?_
          refine H_y 13 rfl (by kernel_rfl) (by kernel_rfl) (by kernel_rfl) (((hsub (.cons_cons _ (.cons_cons _ (.cons_cons _ (.cons_cons _ (.cons_cons _ (.cons_cons _ (.cons_cons _ (.refl _))))))))).trans (hsub_pick [1, 1, 0, 0, 0, 0, 0] rfl))) rfl (y_pick_t rfl rfl) rfl ?_
          refine H_y 14 rfl (by kernel_rfl) (by kernel_rfl) (by kernel_rfl) (((hsub (.cons_cons _ (.cons_cons _ (.cons_cons _ (.cons_cons _ (.cons_cons _ (.cons_cons _ (.cons_cons _ (.refl _))))))))).trans (hsub_pick [1, 1, 0, 0, 0, 0, 0] rfl))) rfl (y_move rfl) rfl ?_
          refine H_y 15 rfl (by kernel_rfl) (by kernel_rfl) (by kernel_rfl) (((hsub (.cons_cons _ (.cons_cons _ (.cons_cons _ (.cons_cons _ (.cons_cons _ (.cons_cons _ (.cons_cons _ (.refl _))))))))).trans (hsub_pick [1, 1, 0, 0, 0, 0, 0] rfl))) rfl (y_fieldAddr rfl fl_35_1) rfl ?_
          refine H_y 16 rfl (by kernel_rfl) (by kernel_rfl) (by kernel_rfl) (((hsub (.cons_cons _ (.cons_cons _ (.cons_cons _ (.cons_cons _ (.cons_cons _ (.cons_cons _ (.cons_cons _ (.refl _))))))))).trans (hsub_pick [1, 1, 0, 0, 0, 0, 0] rfl))) rfl (y_load rfl ag_33 (sees 0 0 rfl) rfl) rfl ?_
          refine H_y 17 rfl (by kernel_rfl) (by kernel_rfl) (by kernel_rfl) (((hsub (.cons_cons _ (.cons_cons _ (.cons_cons _ (.cons_cons _ (.cons_cons _ (.cons_cons _ (.cons_cons _ (.refl _))))))))).trans (hsub_pick [1, 1, 0, 0, 0, 0, 0] rfl))) rfl (y_lenS rfl rfl Try.underlying33) rfl ?_
          refine H_y 18 rfl (by kernel_rfl) (by kernel_rfl) (by kernel_rfl) (((hsub (.cons_cons _ (.cons_cons _ (.cons_cons _ (.cons_cons _ (.cons_cons _ (.cons_cons _ (.cons_cons _ (.refl _))))))))).trans (hsub_pick [1, 1, 0, 0, 0, 0, 0] rfl))) rfl (y_eqi rfl rfl) rfl ?_
          refine H_y 19 rfl (by kernel_rfl) (by kernel_rfl) (by kernel_rfl) (((hsub (.cons_cons _ (.cons_cons _ (.cons_cons _ (.cons_cons _ (.cons_cons _ (.cons_cons _ (.cons_cons _ (.refl _))))))))).trans (hsub_pick [1, 1, 0, 0, 0, 0, 0] rfl))) rfl (y_pick_t rfl rfl) rfl ?_
          refine H_y 20 rfl (by kernel_rfl) (by kernel_rfl) (by kernel_rfl) (((hsub (.cons_cons _ (.cons_cons _ (.cons_cons _ (.cons_cons _ (.cons_cons _ (.cons_cons _ (.cons_cons _ (.refl _))))))))).trans (hsub_pick [1, 1, 0, 0, 0, 0, 0] rfl))) rfl (y_move rfl) rfl ?_
          refine H_case 116 rfl (fun hg19_21 => ?_) (fun hg19_21 => ?_)
          · skip
            refine H_y 21 rfl (by kernel_rfl) (by kernel_rfl) (by kernel_rfl) (((hsub (.cons_cons _ (.cons_cons _ (.cons_cons _ (.cons_cons _ (.cons_cons _ (.cons_cons _ (.cons_cons _ (.refl _))))))))).trans (hsub_pick [1, 1, 0, 0, 0, 0, 0] rfl))) rfl (y_fieldAddr rfl fl_35_0) rfl ?_
            refine H_y 22 rfl (by kernel_rfl) (by kernel_rfl) (by kernel_rfl) (((hsub (.cons_cons _ (.cons_cons _ (.cons_cons _ (.cons_cons _ (.cons_cons _ (.cons_cons _ (.cons_cons _ (.refl _))))))))).trans (hsub_pick [1, 1, 0, 0, 0, 0, 0] rfl))) rfl (y_load rfl ag_3 (sees 0 0 rfl) rfl) rfl ?_
            refine H_y 23 rfl (by kernel_rfl) (by kernel_rfl) (by kernel_rfl) (((hsub (.cons_cons _ (.cons_cons _ (.cons_cons _ (.cons_cons _ (.cons_cons _ (.cons_cons _ (.cons_cons _ (.refl _))))))))).trans (hsub_pick [1, 1, 0, 0, 0, 0, 0] rfl))) rfl (y_fieldAddr rfl fl_35_0) rfl ?_
            refine H_y 24 rfl (by kernel_rfl) (by kernel_rfl) (by kernel_rfl) (((hsub (.cons_cons _ (.cons_cons _ (.cons_cons _ (.cons_cons _ (.cons_cons _ (.cons_cons _ (.cons_cons _ (.refl _))))))))).trans (hsub_pick [1, 1, 0, 0, 0, 0, 0] rfl))) rfl (y_load rfl ag_3 (sees 6 0 rfl) rfl) rfl ?_
            refine H_y 25 rfl (by kernel_rfl) (by kernel_rfl) (by kernel_rfl) (((hsub (.cons_cons _ (.cons_cons _ (.cons_cons _ (.cons_cons _ (.cons_cons _ (.cons_cons _ (.cons_cons _ (.refl _))))))))).trans (hsub_pick [1, 1, 0, 0, 0, 0, 0] rfl))) rfl (y_leq rfl rfl) rfl ?_
            refine H_y 26 rfl (by kernel_rfl) (by kernel_rfl) (by kernel_rfl) (((hsub (.cons_cons _ (.cons_cons _ (.cons_cons _ (.cons_cons _ (.cons_cons _ (.cons_cons _ (.cons_cons _ (.refl _))))))))).trans (hsub_pick [1, 1, 0, 0, 0, 0, 0] rfl))) rfl (y_pick_t rfl rfl) rfl ?_
            refine H_y 27 rfl (by kernel_rfl) (by kernel_rfl) (by kernel_rfl) (((hsub (.cons_cons _ (.cons_cons _ (.cons_cons _ (.cons_cons _ (.cons_cons _ (.cons_cons _ (.cons_cons _ (.refl _))))))))).trans (hsub_pick [1, 1, 0, 0, 0, 0, 0] rfl))) rfl (y_move rfl) rfl ?_
            refine H_case 123 rfl (fun hg19_28 => ?_) (fun hg19_28 => ?_)
            · skip
              refine H_y 28 rfl (by kernel_rfl) (by kernel_rfl) (by kernel_rfl) (((hsub (.cons_cons _ (.cons_cons _ (.cons_cons _ (.cons_cons _ (.cons_cons _ (.cons_cons _ (.cons_cons _ (.refl _))))))))).trans (hsub_pick [1, 1, 0, 0, 0, 0, 0] rfl))) rfl (y_move rfl) rfl ?_
              refine H_y 29 rfl (by kernel_rfl) (by kernel_rfl) (by kernel_rfl) (((hsub (.cons_cons _ (.cons_cons _ (.cons_cons _ (.cons_cons _ (.cons_cons _ (.cons_cons _ (.cons_cons _ (.refl _))))))))).trans (hsub_pick [1, 1, 0, 0, 0, 0, 0] rfl))) rfl (y_loadA rfl ag_23 sz_23 (sees 5 0 rfl) (Nat.le_of_ble_eq_true rfl) rfl) rfl ?_
              refine H_y 30 rfl (by kernel_rfl) (by kernel_rfl) (by kernel_rfl) (((hsub (.cons_cons _ (.cons_cons _ (.cons_cons _ (.cons_cons _ (.cons_cons _ (.cons_cons _ (.cons_cons _ (.refl _))))))))).trans (hsub_pick [1, 1, 0, 0, 0, 0, 0] rfl))) rfl (y_loadA rfl ag_35 sz_35 (sees 6 0 rfl) (Nat.le_of_ble_eq_true rfl) rfl) rfl ?_
              refine H_y 32 rfl (by kernel_rfl) (by kernel_rfl) (by kernel_rfl) (((hsub (.cons_cons _ (.cons_cons _ (.cons_cons _ (.cons_cons _ (.cons_cons _ (.cons_cons _ (.cons_cons _ (.refl _))))))))).trans (hsub_pick [1, 1, 0, 0, 0, 0, 0] rfl))) rfl (y_fieldAddr rfl fl_23_1) rfl ?_
              refine H_y 33 rfl (by kernel_rfl) (by kernel_rfl) (by kernel_rfl) (((hsub (.cons_cons _ (.cons_cons _ (.cons_cons _ (.cons_cons _ (.cons_cons _ (.cons_cons _ (.cons_cons _ (.refl _))))))))).trans (hsub_pick [1, 1, 0, 0, 0, 0, 0] rfl))) rfl (y_load rfl ag_3 (sees 5 0 rfl) rfl) rfl ?_
              refine H_one 31 rfl (by kernel_rfl) rfl (op_call rfl rfl (fun a w => Try.call17 a w) rfl ?_)
              refine (FnS.sub (hsub_pick [0] rfl) (gain_y (ns := (xnums segs size (laidL segs size ll) (v : Int))) hX2 (holds_sl2 ea (s := 3) rfl hga) (by rw [nums_len]; omega) (v : Int) hm (by omega) (by omega))).mono ?_
              rw [e3_]
              rintro _ _ ⟨rfl, rfl⟩
              refine ⟨_, rfl, ?_⟩
              refine ⟨((hsub (.cons_cons _ (.cons_cons _ (.cons_cons _ (.cons_cons _ (.cons_cons _ (.cons_cons _ (.cons_cons _ (.refl _))))))))).trans (hsub_pick [1, 1, 0, 0, 0, 0, 0] rfl)), ?_⟩
              refine H_y 34 rfl (by kernel_rfl) (by kernel_rfl) (by kernel_rfl) (((hsub (.cons_cons _ (.cons_cons _ (.cons_cons _ (.cons_cons _ (.cons_cons _ (.cons_cons _ (.cons_cons _ (.refl _))))))))).trans (hsub_pick [1, 1, 0, 0, 0, 0, 0] rfl))) rfl (y_eqi rfl rfl) rfl ?_
              refine H_y 35 rfl (by kernel_rfl) (by kernel_rfl) (by kernel_rfl) (((hsub (.cons_cons _ (.cons_cons _ (.cons_cons _ (.cons_cons _ (.cons_cons _ (.cons_cons _ (.cons_cons _ (.refl _))))))))).trans (hsub_pick [1, 1, 0, 0, 0, 0, 0] rfl))) rfl (y_pick_t rfl rfl) rfl ?_
              refine H_y 36 rfl (by kernel_rfl) (by kernel_rfl) (by kernel_rfl) (((hsub (.cons_cons _ (.cons_cons _ (.cons_cons _ (.cons_cons _ (.cons_cons _ (.cons_cons _ (.cons_cons _ (.refl _))))))))).trans (hsub_pick [1, 1, 0, 0, 0, 0, 0] rfl))) rfl (y_assign rfl) rfl ?_
              refine H_done (by kernel_rfl) ?_
              refine C_ret ?_
              refine B_ret (rv_tmp rfl rv_nil) (HSub.refl _) ?_
              first | rfl | exact ret_bool (by simp; omega)
            · exact absurd (of_decide_eq_false hg19_28) (by omega)
          · exact (of_decide_eq_false hg19_21 (by rw [nums_len, hw0]; rfl)).elim
        · exact absurd hg19_12 (by simp)

end Go.Proofs.Ytighbhplfjjgpaa

/- From a row's reading of a slice of bytes to what a walk asks (own work). -/
set_option linter.unusedVariables false
namespace Go.Sl
open Go.RowKit
end Go.Sl

/- What a row tells of its arguments, for flat types (integers, bools, structs and arrays of these) and slices of them (own work). -/
set_option linter.unusedVariables false
set_option linter.unusedSimpArgs false
namespace Go.Sl
open Go.RowKit
inductive Sc where
  | int (k : IntKind)
  | bool
def Sc.fit : Sc → Value → Prop
  | .int k, v => ∃ n, v = .int k n ∧ (Lit.int k n).wf = true
  | .bool, v => ∃ b, v = .bool b
/-- A row of cells fits a row of scalars. -/
def Fits : List Sc → List Value → Prop
  | [], [] => True
  | s :: ss, v :: vs => s.fit v ∧ Fits ss vs
  | _, _ => False
theorem Fits.length : ∀ {ss : List Sc} {vs : List Value}, Fits ss vs → vs.length = ss.length
  | [], [], _ => rfl
  | _ :: _, _ :: _, h => by simp [Fits.length h.2]
  | [], _ :: _, h => h.elim
  | _ :: _, [], h => h.elim
theorem Fits.append : ∀ {ss tt : List Sc} {vs us : List Value}, Fits ss vs → Fits tt us → Fits (ss ++ tt) (vs ++ us)
  | [], _, [], _, _, h => h
  | _ :: _, _, _ :: _, _, h, k => ⟨h.1, Fits.append h.2 k⟩
  | [], _, _ :: _, _, h, _ => h.elim
  | _ :: _, _, [], _, h, _ => h.elim
theorem Fits.cons_iff {s : Sc} {ss : List Sc} {vs : List Value} : Fits (s :: ss) vs ↔ ∃ v us, vs = v :: us ∧ s.fit v ∧ Fits ss us := by
  cases vs with
  | nil => simp [Fits]
  | cons v us =>
    refine ⟨fun h => ⟨v, us, rfl, h⟩, fun ⟨v', us', e, h⟩ => ?_⟩
    obtain ⟨rfl, rfl⟩ := List.cons.inj e
    exact h
theorem Fits.nil_iff {vs : List Value} : Fits [] vs ↔ vs = [] := by cases vs <;> simp [Fits]
theorem Fits.split : ∀ {ss tt : List Sc} {vs : List Value}, Fits (ss ++ tt) vs → ∃ a b, vs = a ++ b ∧ Fits ss a ∧ Fits tt b
  | [], _, vs, h => ⟨[], vs, rfl, trivial, h⟩
  | s :: ss, tt, vs, h => by
    obtain ⟨v, us, rfl, h1, h2⟩ := Fits.cons_iff.1 h
    obtain ⟨a, b, rfl, h3, h4⟩ := Fits.split (ss := ss) h2
    exact ⟨v :: a, b, rfl, ⟨h1, h3⟩, h4⟩
/-- A row of bytes. -/
theorem Fits.bytes : ∀ {n : Nat} {vs : List Value}, Fits (List.replicate n (.int .u8)) vs → ∃ u : List UInt8, vs = bs u ∧ u.length = n
  | 0, vs, h => ⟨[], by rw [Fits.nil_iff.1 h]; rfl, rfl⟩
  | n + 1, vs, h => by
    rw [List.replicate_succ] at h
    obtain ⟨v, us, rfl, ⟨m, rfl, hm⟩, h2⟩ := Fits.cons_iff.1 h
    obtain ⟨u, rfl, rfl⟩ := Fits.bytes h2
    have hb := bounds_u8 hm
    refine ⟨UInt8.ofNat m.toNat :: u, ?_, rfl⟩
    rw [u8_of_int (by omega) (by omega)]; rfl
def flatF (P : Program) (g : TypeId → Option (List Sc)) : List Field → Nat → Option (List Sc)
  | [], _ => some []
  | f :: fs, off => if f.offset = off then (g f.type).bind fun l => if P.cellsOf f.type = l.length then (flatF P g fs (off + l.length)).map (l ++ ·) else none else none
def flatT (P : Program) : Nat → TypeId → Option (List Sc)
  | 0, _ => none
  | d + 1, t => match P.underlying t with
    | some (.int k) => some [.int k]
    | some .bool => some [.bool]
    | some (.struct fs) => (flatF P (flatT P d) fs.toList 0).bind fun l => if P.cellsOf t = l.length then some l else none
    | some (.array n e) => (flatT P d e).bind fun l => if P.cellsOf e = l.length ∧ P.cellsOf t = n * l.length then some (List.replicate n l).flatten else none
    | _ => none
theorem flatF_fits {P : Program} {g : TypeId → Option (List Sc)} {cs : List Value} : ∀ {fs : List Field} {off : Nat} {sh : List Sc}, flatF P g fs off = some sh →
    (∀ f ∈ fs, ∀ l, g f.type = some l → Fits l ((cs.drop f.offset).take (P.cellsOf f.type))) → Fits sh ((cs.drop off).take sh.length)
  | [], off, sh, h, _ => by
    simp only [flatF, Option.some.injEq] at h
    subst h; simp [Fits]
  | f :: fs, off, sh, h, hf => by
    unfold flatF at h
    split at h
    · rename_i ho
      cases hg : g f.type with
      | none => simp [hg] at h
      | some l =>
        rw [hg] at h; simp only [Option.bind_some] at h
        split at h
        · rename_i hc
          cases hr : flatF P g fs (off + l.length) with
          | none => simp [hr] at h
          | some l2 =>
            simp only [hr, Option.map_some, Option.some.injEq] at h
            subst h
            have h1 := hf f (by simp) l hg
            have h2 := flatF_fits hr (fun f' hf' => hf f' (by simp [hf']))
            rw [ho, hc] at h1
            have h3 := Fits.append h1 h2
            rw [List.length_append, List.take_add, List.drop_drop]
            exact h3
        · cases h
    · cases h
section
variable {H : Type} {enc : TypeId × Value → H} {P : Program} {w : World} {base : Nat} {spare : Nat → Bool} {held : Bool}
theorem arr_fits {l : List Sc} : ∀ {n : Nat} {cs : List Value}, cs.length = n * l.length → (∀ i, i < n → Fits l ((cs.drop (i * l.length)).take l.length)) → Fits (List.replicate n l).flatten cs
  | 0, cs, h, _ => by simp at h; subst h; simp [Fits]
  | n + 1, cs, h, hi => by
    rw [Nat.add_mul, Nat.one_mul] at h
    have h0 := hi 0 (by omega)
    rw [Nat.zero_mul, List.drop_zero] at h0
    have h1 := arr_fits (l := l) (n := n) (cs := cs.drop l.length) (by simp; omega) (fun i hi' => by
      have := hi (i + 1) (by omega)
      rw [List.drop_drop, show l.length + i * l.length = (i + 1) * l.length from by rw [Nat.add_mul, Nat.one_mul, Nat.add_comm]]
      exact this)
    have h2 := Fits.append h0 h1
    rw [List.take_append_drop] at h2
    rw [List.replicate_succ, List.flatten_cons]
    exact h2
theorem flat_trod : ∀ {d : Nat} {t : TypeId} {sh : List Sc}, flatT P d t = some sh → ∀ {fuel : Nat} {cs : List Value} {x : DataW H × List MemPlace}, DataW.trod enc P w base spare held fuel t cs = some x → Fits sh cs
  | 0, _, _, h, _, _, _, _ => by simp [flatT] at h
  | d + 1, t, sh, h, fuel, cs, x, hx => by
    unfold flatT at h
    split at h
    · rename_i k hu
      obtain ⟨n, rfl, _, hw⟩ := DataW.trod_int hu hx
      simp only [Option.some.injEq] at h; subst h
      exact ⟨⟨n, rfl, hw⟩, trivial⟩
    · rename_i hu
      obtain ⟨b, rfl, _⟩ := DataW.trod_bool hu hx
      simp only [Option.some.injEq] at h; subst h
      exact ⟨⟨b, rfl⟩, trivial⟩
    · rename_i fs hu
      obtain ⟨xs, n, _, _, hl, hlen, hf⟩ := DataW.trod_struct hu hx
      cases hF : flatF P (flatT P d) fs.toList 0 with
      | none => simp [hF] at h
      | some l =>
        simp only [hF, Option.bind_some] at h
        split at h
        · rename_i hc
          simp only [Option.some.injEq] at h; subst h
          have := flatF_fits (cs := cs) hF (fun f hfm l' hl' => by
            obtain ⟨i, hi, rfl⟩ := List.getElem_of_mem hfm
            have h1 := hf i _ (by rw [← Array.getElem?_toList]; exact List.getElem?_eq_getElem hi)
            have h2 : i < xs.length := by rw [hlen]; simpa using hi
            rw [List.getElem?_eq_getElem h2] at h1
            exact flat_trod hl' h1)
          rw [List.drop_zero, List.take_of_length_le (by omega)] at this
          exact this
        · cases h
    · rename_i n e hu
      obtain ⟨xs, m, _, _, hl, hlen, hf⟩ := DataW.trod_array hu hx
      cases hF : flatT P d e with
      | none => simp [hF] at h
      | some l =>
        simp only [hF, Option.bind_some] at h
        split at h
        · rename_i hc
          simp only [Option.some.injEq] at h; subst h
          refine arr_fits (by rw [hl, hc.2]) (fun i hi => ?_)
          have h1 := hf i hi
          have h2 : i < xs.length := by omega
          rw [List.getElem?_eq_getElem h2, hc.1] at h1
          exact flat_trod hF h1
        · cases h
    · cases h
/-- A flat struct or array as an argument. -/
theorem flat_agg {d : Nat} {t : TypeId} {sh : List Sc} {v : Value} {D : DataW H} {ps : List MemPlace} (h : flatT P d t = some sh) (hv : ∃ cs, v = .agg cs) (hT : DataW.Trod enc P w base spare held t v D ps) : ∃ cs, v = .agg cs.toArray ∧ Fits sh cs := by
  obtain ⟨cs, rfl⟩ := hv
  obtain ⟨fuel, hf⟩ := hT
  exact ⟨cs.toList, by simp, flat_trod h hf⟩
theorem okWide_agg {r : Reach} {b0 : Nat} {t : TypeId} {v : Value} (ht : isAggT P t = true) (h : Value.okWide P w r b0 t v) : ∃ cs, v = .agg cs := by
  unfold Value.okWide at h
  unfold isAggT at ht
  split at h
  · obtain ⟨cs, rfl, _⟩ := h; exact ⟨cs, rfl⟩
  · obtain ⟨cs, rfl, _⟩ := h; exact ⟨cs, rfl⟩
  · rename_i h1 h2
    cases hu : P.underlying t with
    | none => simp [hu] at ht
    | some dd =>
      cases dd with
      | struct fs => exact absurd hu (h1 fs)
      | array n e => exact absurd hu (h2 n e)
      | _ => simp [hu] at ht
/-- What is told of a slice that came in. -/
def InS (w : World) (sh : List Sc) (a : Option Addr) (len cap : Nat) : Prop :=
  (a = none ∧ len = 0 ∧ cap = 0) ∨ ∃ (x : Addr), a = some x ∧ len ≤ cap ∧ cap ≤ maxLen ∧
    (0 < len → ∃ (b off : Nat) (l : List Value) (T : TypeId) (fr : Nat × Nat), x = ⟨b, off, none⟩ ∧ w.heap[b]? = some (.cells l.toArray T fr) ∧ off + len * sh.length ≤ l.length ∧
      ∀ i, i < len → Fits sh ((l.drop (off + i * sh.length)).take sh.length))
theorem cell_block {w : World} {b off : Nat} {spot : Option Nat} {v : Value} (h : w.cell? ⟨b, off, spot⟩ = some v) : spot = none ∧ ∃ (l : List Value) (T : TypeId) (fr : Nat × Nat), w.heap[b]? = some (.cells l.toArray T fr) := by
  have hs : spot = none := by
    unfold World.cell? at h
    cases spot with
    | none => rfl
    | some s => split at h <;> simp at h
  subst hs
  refine ⟨rfl, ?_⟩
  cases hb : w.heap[b]? with
  | none => simp [World.cell?, hb] at h
  | some o =>
    cases o with
    | cells c T fr => exact ⟨c.toList, T, fr, by simp⟩
    | _ => simp [World.cell?, hb] at h
theorem flat_slice {d : Nat} {t e : TypeId} {sh : List Sc} {a : Option Addr} {len cap : Nat} {D : DataW H} {ps : List MemPlace} (ht : P.underlying t = some (.slice e)) (h : flatT P d e = some sh) (hc : P.cellsOf e = sh.length) (hp : 0 < sh.length)
    (hT : DataW.Trod enc P w base (fun _ => true) held t (.slice a len cap) D ps) : InS w sh a len cap := by
  obtain ⟨fuel, hf⟩ := hT
  rcases Go.Deep.open_slice ht hf with ⟨hcs, _⟩ | ⟨x, len', cap', m, n, DD, Pl, hcs, _, hl, hm, hmm, _, hx⟩
  · simp [Value.cells] at hcs
    exact .inl hcs
  · simp [Value.cells] at hcs
    obtain ⟨rfl, rfl, rfl⟩ := hcs
    refine .inr ⟨x, rfl, hl, hm, fun hpos => ?_⟩
    simp only [if_true] at hmm
    subst hmm
    rw [hc] at hx
    obtain ⟨b, off, spot⟩ := x
    obtain ⟨cs1, f1, f2⟩ := hx 0 (by omega)
    obtain ⟨_, f3, f4⟩ := World.cells?_some f1
    have f5 := f4 0 hp
    rw [List.getElem?_eq_getElem (by omega), show (Addr.add (Addr.add ⟨b, off, spot⟩ (0 * sh.length)) 0) = ⟨b, off, spot⟩ from by simp [Addr.add]] at f5
    obtain ⟨rfl, l, T, fr, hb⟩ := cell_block f5
    have hcell : ∀ i, i < len → ∃ cs', cs'.length = sh.length ∧ Fits sh cs' ∧ ∀ j, j < sh.length → w.cell? ⟨b, off + (i * sh.length + j), none⟩ = cs'[j]? := fun i hi => by
      obtain ⟨cs', h1, h2⟩ := hx i (by omega)
      obtain ⟨_, h3, h4⟩ := World.cells?_some h1
      exact ⟨cs', h3, flat_trod h h2, fun j hj => by have := h4 j hj; rw [addr_add, addr_add] at this; simpa [Nat.add_assoc] using this⟩
    have hget : ∀ i, i < len → ∀ j, j < sh.length → ∃ v, l[off + (i * sh.length + j)]? = some v ∧ w.cell? ⟨b, off + (i * sh.length + j), none⟩ = some v := fun i hi j hj => by
      obtain ⟨cs', h1, h2, h3⟩ := hcell i hi
      have h4 := h3 j hj
      rw [List.getElem?_eq_getElem (by omega)] at h4
      refine ⟨_, ?_, h4⟩
      simpa [World.cell?, hb] using h4
    have hle : off + len * sh.length ≤ l.length := by
      obtain ⟨v, h1, _⟩ := hget (len - 1) (by omega) (sh.length - 1) (by omega)
      have h2 := (List.getElem?_eq_some_iff.1 h1).1
      have h3 : (len - 1) * sh.length + sh.length = len * sh.length := by
        rw [← Nat.succ_mul]; congr 1; omega
      omega
    refine ⟨b, off, l, T, fr, rfl, hb, hle, fun i hi => ?_⟩
    obtain ⟨cs', h1, h2, h3⟩ := hcell i hi
    have : (l.drop (off + i * sh.length)).take sh.length = cs' := by
      apply List.ext_getElem?
      intro j
      by_cases hj : j < sh.length
      · rw [List.getElem?_take_of_lt hj, List.getElem?_drop, ← h3 j hj]
        obtain ⟨v, k1, k2⟩ := hget i hi j hj
        rw [k2, Nat.add_assoc, k1]
      · have hc : i * sh.length + sh.length ≤ len * sh.length := by
          rw [← Nat.succ_mul]; exact Nat.mul_le_mul_right _ hi
        rw [List.getElem?_eq_none (by simp; omega), List.getElem?_eq_none (by omega)]
    rw [this]; exact h2
/-- The same, told as one row of elements. -/
theorem inS_rows {w : World} {sh : List Sc} {α : Type} {f : α → List Value} (hf : ∀ cs, Fits sh cs → ∃ x, cs = f x) : ∀ {len : Nat} {l : List Value} {off : Nat}, off + len * sh.length ≤ l.length →
    (∀ i, i < len → Fits sh ((l.drop (off + i * sh.length)).take sh.length)) → ∃ xs : List α, xs.length = len ∧ (l.drop off).take (len * sh.length) = (xs.map f).flatten
  | 0, l, off, _, _ => ⟨[], rfl, by simp⟩
  | len + 1, l, off, hl, h => by
    have h0 := h 0 (by omega)
    rw [Nat.zero_mul, Nat.add_zero] at h0
    obtain ⟨x, hx⟩ := hf _ h0
    rw [Nat.succ_mul] at hl
    obtain ⟨xs, h1, h2⟩ := inS_rows (w := w) hf (len := len) (l := l) (off := off + sh.length) (by omega) (fun i hi => by
      have := h (i + 1) (by omega)
      rw [Nat.succ_mul] at this
      rw [show off + sh.length + i * sh.length = off + (i * sh.length + sh.length) from by omega]
      exact this)
    refine ⟨x :: xs, by simp [h1], ?_⟩
    rw [Nat.succ_mul, Nat.add_comm (len * sh.length), List.take_add, List.drop_drop, hx, h2]
    rfl
end
end Go.Sl

/- Rows over slices of numbers, with or without sectors (own work). -/
set_option linter.unusedVariables false
namespace Go.Sl
open Go.RowKit
theorem in_lcs {w : World} {a : Option Addr} {len cap : Nat} (h : InS w [.int .u64, .int .i64] a len cap) : ∃ ll : Xl, len = ll.length ∧ Holds w [] a (lcs ll) ∧ ∀ c ∈ ll, c.1 < 18446744073709551616 := by
  rcases h with ⟨rfl, rfl, rfl⟩ | ⟨x, rfl, h1, h2, h3⟩
  · exact ⟨[], rfl, fun hp => by simp [lcs] at hp, fun c hc => by cases hc⟩
  · rcases Nat.eq_zero_or_pos len with rfl | hp
    · exact ⟨[], rfl, fun hp => by simp [lcs] at hp, fun c hc => by cases hc⟩
    · obtain ⟨b, off, l, T, fr, rfl, hb, hl, hf⟩ := h3 hp
      obtain ⟨ds, hd, ht⟩ := inS_rows (w := w) (f := fun x : UInt64 × Int => [Value.int .u64 (x.1.toNat : Int), Value.int .i64 x.2]) (fun cs hc => by
        obtain ⟨_, _, rfl, ⟨a, rfl, ha⟩, g1⟩ := Fits.cons_iff.1 hc
        obtain ⟨_, _, rfl, ⟨b, rfl, _⟩, g2⟩ := Fits.cons_iff.1 g1
        obtain rfl := Fits.nil_iff.1 g2
        have := bounds_u64 ha
        refine ⟨(UInt64.ofNat a.toNat, b), ?_⟩
        simp
        omega) hl hf
      have e : (ds.map fun x : UInt64 × Int => [Value.int .u64 (x.1.toNat : Int), Value.int .i64 x.2]).flatten = lcs (ds.map fun x => (x.1.toNat, x.2)) := by
        clear ht hd
        induction ds with
        | nil => rfl
        | cons x l ih => simp only [List.map_cons, List.flatten_cons, ih]; rfl
      refine ⟨ds.map fun x => (x.1.toNat, x.2), by simpa using hd.symm, fun _ => ⟨b, off, l, T, fr, rfl, sees_old hb, ?_, ?_⟩, ?_⟩
      · rw [lcs_len, List.length_map, hd]; exact hl
      · rw [lcs_len, List.length_map, hd, ← e]; exact ht
      · intro c hc
        obtain ⟨x, _, rfl⟩ := List.mem_map.1 hc
        exact x.1.toNat_lt
end Go.Sl

/- Rows over a slice of deeds on numbers (own work). -/
set_option linter.unusedVariables false
namespace Go.Sl
open Go.RowKit
theorem in_bos {w : World} {a : Option Addr} {len cap : Nat} (h : InS w [.bool] a len cap) : ∃ ds : List Bool, len = ds.length ∧ Holds w [] a (bos ds) := by
  rcases h with ⟨rfl, rfl, rfl⟩ | ⟨x, rfl, h1, h2, h3⟩
  · exact ⟨[], rfl, fun hp => by simp [bos] at hp⟩
  · rcases Nat.eq_zero_or_pos len with rfl | hp
    · exact ⟨[], rfl, fun hp => by simp [bos] at hp⟩
    · obtain ⟨b, off, l, T, fr, rfl, hb, hl, hf⟩ := h3 hp
      obtain ⟨ds, hd, ht⟩ := inS_rows (w := w) (f := fun b : Bool => [Value.bool b]) (fun cs hc => by
        obtain ⟨_, _, rfl, ⟨a, rfl⟩, g1⟩ := Fits.cons_iff.1 hc
        obtain rfl := Fits.nil_iff.1 g1
        exact ⟨a, rfl⟩) hl hf
      have e : (ds.map fun b : Bool => [Value.bool b]).flatten = bos ds := by
        clear ht hd
        induction ds with
        | nil => rfl
        | cons x l ih => simp only [List.map_cons, List.flatten_cons, ih]; rfl
      refine ⟨ds, hd.symm, fun _ => ⟨b, off, l, T, fr, rfl, sees_old hb, ?_, ?_⟩⟩
      · rw [bos_len, hd]; simpa using hl
      · rw [bos_len, hd, ← e]; simpa using ht
end Go.Sl


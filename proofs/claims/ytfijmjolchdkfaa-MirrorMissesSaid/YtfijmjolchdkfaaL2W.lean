/- walks (own work; the walks' lines by a program of this repo). -/
import Derived.Test.YtfijmjolchdkfaaLaW
import Derived.Test.YtfijmjolchdkfaaVqW
import Derived.Test.YtfijmjolchdkfaaSz
set_option linter.unusedVariables false
set_option linter.unusedSimpArgs false
set_option maxRecDepth 20000
namespace Go.Proofs.Ytfijmjolchdkfaa
open Go.Sl
attribute [local irreducible] BodyQ WpC WpL WpS WpH OpW FnS



set_option maxHeartbeats 4000000 in

theorem misses_tt {w0 : World} {H : Hp} (n : Nat) (hn : n < 256) (x y u v : UInt8) (hg1 : goodP ((n % 6 : Nat) : Int) (sec3 x y 9) = true) (hg2 : goodP ((n % 6 : Nat) : Int) (sec3 u v 9) = true) : FnS Try.prog w0 6 #[.int .u8 (n : Int), .int .u8 (x.toNat : Int), .int .u8 (y.toNat : Int), .int .u8 (u.toNat : Int), .int .u8 (v.toNat : Int)] H (fun e H' => e = .returned (.bool true)) := by
  refine FnS_intro (n := 136) (rs := [.tmp 10]) (vs := [.int .u8 (n : Int), .int .u8 (x.toNat : Int), .int .u8 (y.toNat : Int), .int .u8 (u.toNat : Int), .int .u8 (v.toNat : Int)]) Try.func6 rfl Try.ntmps6 rfl rfl ?_
  refine C_seq ?_
  refine C_region ?_
  refine L_y rfl (y_assign rfl) rfl ?_
  refine L_nil ?_
  refine C_seq ?_
  refine C_seq ?_
  refine C_region ?_
  refine L_op rfl (op_call rfl rfl (fun a w => Try.call15 a w) rfl ?_)
  refine awake09_s.mono ?_
  rintro _ _ ⟨rfl, e⟩
  obtain rfl := e.symm
  clear e
  refine ⟨_, rfl, ?_⟩
  refine L_y rfl (y_not rfl) rfl ?_
  refine L_nil ?_
  refine C_cond_f rfl ?_
  refine C_skip ?_
  refine C_seq ?_
  obtain ⟨t, htt⟩ : ∃ t, n % 6 = t := ⟨_, rfl⟩
  rw [htt] at hg1 hg2
  have ht : t < 6 := by omega
  have hl2 : ∀ t, ((List.replicate 6 (secOf 0)).set t (sec3 x y 9)).length = 6 := fun t => by simp
  refine C_region ?_
  refine L_y rfl (y_move rfl) rfl ?_
  refine L_y rfl (y_conv rfl us_5 Try.underlying3 (wi64 (by omega) (by omega))) rfl ?_
  refine L_y rfl (y_rem rfl rfl (by decide) (show _ = ((t : Nat) : Int) from by rw [← htt]; rfl)) rfl ?_
  refine L_y rfl (y_assign rfl) rfl ?_
  refine L_nil ?_
  refine C_seq ?_
  refine C_region ?_
  refine L_y rfl (y_move rfl) rfl ?_
  refine L_y rfl (y_move rfl) rfl ?_
  refine L_op rfl (op_call rfl rfl (fun a w => Try.call20 a w) rfl ?_)
  refine (sector3_s x y).mono ?_
  rintro _ _ ⟨rfl, e⟩
  obtain rfl := e.symm
  clear e
  refine ⟨_, rfl, ?_⟩
  refine L_y rfl (y_move rfl) rfl ?_
  refine L_y rfl (y_move rfl) rfl ?_
  refine L_op rfl (op_call rfl rfl (fun a w => Try.call20 a w) rfl ?_)
  refine (sector3_s u v).mono ?_
  rintro _ _ ⟨rfl, e⟩
  obtain rfl := e.symm
  clear e
  refine ⟨_, rfl, ?_⟩
  refine L_op rfl (op_alloc zl_32 rfl (fun B1 => ?_))
  refine L_op rfl (op_alloc zl_32 rfl (fun B2 => ?_))
  refine L_op rfl (op_storeA 1 0 rfl rfl rfl sz_32 (by rw [bs_length, sec3_len _ _ _]) rfl (bs_one _) (by simp) ?_)
  refine L_op rfl (op_storeA 0 0 rfl rfl rfl sz_32 (by rw [bs_length, sec3_len _ _ _]) rfl (bs_one _) (by simp) ?_)
  refine L_nil ?_
  refine C_seq ?_
  refine C_seq ?_
  refine C_region ?_
  refine L_y rfl (y_move rfl) rfl ?_
  refine L_y rfl (y_loadA rfl ag_32 sz_32 (sees 1 0 rfl) (by rw [bs_length, sec3_len _ _ _]; decide) (bs_whole0 _ (sec3_len _ _ _))) rfl ?_
  refine L_op rfl (op_call rfl rfl (fun a w => Try.call18 a w) rfl ?_)
  refine (good09_s (t : Int) _ (sec3_len _ _ _)).mono ?_
  rintro _ _ ⟨e4, e⟩
  obtain rfl := e.symm
  clear e
  rw [hg1] at e4
  obtain rfl := e4
  refine ⟨_, rfl, ?_⟩
  refine L_y rfl (y_not rfl) rfl ?_
  refine L_y rfl (y_move rfl) rfl ?_
  refine L_y rfl (y_move rfl) rfl ?_
  refine L_y rfl (y_loadA rfl ag_32 sz_32 (sees 0 0 rfl) (by rw [bs_length, sec3_len _ _ _]; decide) (bs_whole0 _ (sec3_len _ _ _))) rfl ?_
  refine L_op rfl (op_call rfl rfl (fun a w => Try.call18 a w) rfl ?_)
  refine (good09_s (t : Int) _ (sec3_len _ _ _)).mono ?_
  rintro _ _ ⟨e4, e⟩
  obtain rfl := e.symm
  clear e
  rw [hg2] at e4
  obtain rfl := e4
  refine ⟨_, rfl, ?_⟩
  refine L_y rfl (y_not rfl) rfl ?_
  refine L_y rfl (y_pick_f rfl rfl) rfl ?_
  refine L_nil ?_
  refine C_cond_f rfl ?_
  refine C_skip ?_
  refine C_seq ?_
  refine C_region ?_
  refine L_op rfl (op_call rfl rfl (fun a w => Try.call16 a w) rfl ?_)
  refine (new_ln 6).mono ?_
  rintro _ _ ⟨d91, p91, hG91, ha91, hP91, rfl, rfl⟩
  have hA91 : d91.a = Ab.new 6 := by rw [ha91] <;> (rfl)
  have hb91 : d91.b = d91.b := rfl
  refine ⟨_, rfl, ?_⟩
  refine L_op rfl (op_call rfl rfl (fun a w => Try.call16 a w) rfl ?_)
  refine ((newnil_d hG91 rfl 6).sub (hsub_pick [0, 0, 0, 0, 0] rfl)).mono ?_
  rintro _ _ ⟨by81, D81, h81, rfl, rfl⟩
  replace h81 := h81.to (B := ⟨Ab.new 6, Ab.new 6, q0, some q0⟩) (by rw [hA91, hP91] <;> (rfl))
  have hv1 : Vw ⟨Ab.new 6, Ab.new 6, q0, some q0⟩ 6 (List.replicate 6 (secOf 0)) (List.replicate 6 (secOf 0)) 0 0 := Vw.new (by omega) (some q0) (.inr rfl)
  refine ⟨_, rfl, ?_⟩
  refine L_y rfl (y_assign rfl) rfl ?_
  refine L_y rfl (y_assign rfl) rfl ?_
  refine L_nil ?_
  refine C_seq ?_
  refine C_region ?_
  refine L_y rfl (y_move rfl) rfl ?_
  refine L_y rfl (y_move rfl) rfl ?_
  refine L_op rfl (op_call rfl rfl (fun a w => Try.call17 a w) rfl ?_)
  refine (FnS.sub (hsub_pick [0] rfl) (new_v (f := 18) (cap := []) h81 hv1 (fun s hs => by rw [List.eq_of_mem_replicate hs]; exact secOf_len _) (fun s hs => by rw [List.eq_of_mem_replicate hs]; exact secOf_len _))).mono ?_
  rintro _ _ ⟨mb2, m2, hS2, rfl, rfl⟩
  refine ⟨_, rfl, ?_⟩
  refine L_y rfl (y_assign rfl) rfl ?_
  refine L_nil ?_
  refine C_seq ?_
  refine C_region ?_
  refine L_y rfl (y_move rfl) rfl ?_
  refine L_y rfl (y_move rfl) rfl ?_
  refine L_y rfl (y_loadA rfl ag_32 sz_32 (sees 3 0 rfl) (by rw [bs_length, sec3_len _ _ _]; decide) (bs_whole0 _ (sec3_len _ _ _))) rfl ?_
  refine L_op rfl (op_call rfl rfl (fun a w => Try.call19 a w) rfl ?_)
  refine (FnS.sub (hsub_pick [0, 0] rfl) (write_v hS2 (n := t) (s := (sec3 x y 9)) ht (sec3_len _ _ _) (by omega) (by omega))).mono ?_
  rintro _ _ ⟨rfl, D3, A3, hS3, rfl⟩
  refine ⟨_, rfl, ?_⟩
  refine L_nil ?_
  refine C_seq ?_
  refine C_region ?_
  refine L_y rfl (y_move rfl) rfl ?_
  refine L_op rfl (op_call rfl rfl (fun a w => Try.call21 a w) rfl ?_)
  refine (FnS.sub (hsub_pick [0, 0] rfl) (flush_v hS3)).mono ?_
  rintro _ _ ⟨rfl, D4, A4, hS4, rfl⟩
  refine ⟨_, rfl, ?_⟩
  refine L_nil ?_
  refine C_seq ?_
  refine C_region ?_
  refine L_y rfl (y_move rfl) rfl ?_
  refine L_op rfl (op_call rfl rfl (fun a w => Try.call34 a w) rfl ?_)
  refine (FnS.sub (hsub_pick [1] rfl) (out_d hS4.two false true)).mono ?_
  rintro _ _ ⟨rfl, D3, hT3, rfl⟩
  refine ⟨_, rfl, ?_⟩
  refine L_nil ?_
  refine C_seq ?_
  refine C_region ?_
  refine L_y rfl (y_move rfl) rfl ?_
  refine L_y rfl (y_move rfl) rfl ?_
  refine L_y rfl (y_loadA rfl ag_32 sz_32 (sees 2 0 rfl) (by rw [bs_length, sec3_len _ _ _]; decide) (bs_whole0 _ (sec3_len _ _ _))) rfl ?_
  refine L_op rfl (op_call rfl rfl (fun a w => Try.call19 a w) rfl ?_)
  refine (FnS.sub (hsub_pick [1, 0] rfl) (mwrite_b hS4.mb hS4.bx hS4.bys hT3 (t : Int) (sec3 u v 9) (sec3_len _ _ _) (fun i => Nat.lt_of_le_of_lt (Nat.le_trans (outs_many A4 false i) (hS4.many (k := 0) (Nat.le_refl _) (Nat.le_refl _) i)) (by decide)))).mono ?_
  rintro _ _ ⟨e4, D4, hT4, rfl⟩
  obtain ⟨p0, hV, p2, p3, p4, p5, p6, p7, p8⟩ := missed (s := (sec3 u v 9)) hS4.vw ht (sec3_len _ _ _) hS4.n hS4.s0 hS4.s1
  rw [p0] at e4
  obtain rfl := e4
  rw [hS4.mb] at p4
  rw [hS4.bx] at p5
  rw [hS4.bys] at p6
  rw [hS4.n] at p7
  rw [hS4.gv] at p8
  generalize hm2 : putm m2 _ askAll (t : Int) (sec3 u v 9) = mm at *
  refine ⟨_, rfl, ?_⟩
  refine L_y rfl (y_assign rfl) rfl ?_
  refine L_nil ?_
  refine C_seq ?_
  refine C_region ?_
  refine L_y rfl (y_move rfl) rfl ?_
  refine L_op rfl (op_call rfl rfl (fun a w => Try.call21 a w) rfl ?_)
  refine (FnS.sub (hsub_pick [0, 0] rfl) (mflush_b p4 p5 p6 hT4)).mono ?_
  rintro _ _ ⟨rfl, D5, hT5, rfl⟩
  refine ⟨_, rfl, ?_⟩
  refine L_nil ?_
  refine C_seq ?_
  refine C_region ?_
  refine L_y rfl (y_move rfl) rfl ?_
  refine L_op rfl (op_call rfl rfl (fun a w => Try.call34 a w) rfl ?_)
  refine (FnS.sub (hsub_pick [1] rfl) (out_d hT5 false false)).mono ?_
  rintro _ _ ⟨rfl, D6, hT6, rfl⟩
  generalize hA6 : Da.setd _ false (Ab.outs _ false) = A6 at *
  refine ⟨_, rfl, ?_⟩
  refine L_nil ?_
  refine C_seq ?_
  refine C_region ?_
  refine L_y rfl (y_move rfl) rfl ?_
  refine L_y rfl (y_move rfl) rfl ?_
  refine L_op rfl (op_call rfl rfl (fun a w => Try.call22 a w) rfl ?_)
  refine (FnS.sub (hsub_pick [1, 0] rfl) (mread_b p4 p5 p6 hT6 (show GoodAt Try.prog _ _ mm.gv goodP by rw [p8]; exact good_at) (t : Int))).mono ?_
  rintro _ _ ⟨e4, rfl⟩
  obtain ⟨r1, r2⟩ := rd_stale (p := goodP) hV p7 p2 p3 (gset (hl2 t) ht) hg2
  rw [r1, r2] at e4
  obtain rfl := e4
  refine ⟨_, rfl, ?_⟩
  refine L_y rfl (y_move rfl) rfl ?_
  refine L_y rfl (y_extract rfl rfl) rfl ?_
  refine L_y rfl (y_extract rfl rfl) rfl ?_
  refine L_op rfl (op_alloc zl_32 rfl (fun B3 => ?_))
  refine L_op rfl (op_storeA 0 0 rfl rfl rfl sz_32 (by rw [bs_length, sec3_len _ _ _]) rfl (bs_one _) (by simp) ?_)
  refine L_y rfl (y_assign rfl) rfl ?_
  refine L_nil ?_
  refine C_seq ?_
  refine C_region ?_
  refine L_y rfl (y_move rfl) rfl ?_
  refine L_op rfl (op_call rfl rfl (fun a w => Try.call35 a w) rfl ?_)
  refine (FnS.sub (hsub_pick [1] rfl) (stale_b p4)).mono ?_
  rintro _ _ ⟨e4, rfl⟩
  rw [p2, p3] at e4
  obtain rfl := e4
  refine ⟨_, rfl, ?_⟩
  refine L_y rfl (y_move rfl) rfl ?_
  refine L_y rfl (y_extract rfl rfl) rfl ?_
  refine L_y rfl (y_extract rfl rfl) rfl ?_
  refine L_y rfl (y_assign rfl) rfl ?_
  refine L_y rfl (y_assign rfl) rfl ?_
  refine L_nil ?_
  refine C_seq ?_
  refine C_region ?_
  refine L_y rfl (y_move rfl) rfl ?_
  refine L_op rfl (op_call rfl rfl (fun a w => Try.call34 a w) rfl ?_)
  refine (FnS.sub (hsub_pick [2] rfl) (out_d hT6 true true)).mono ?_
  rintro _ _ ⟨rfl, D7, hT7, rfl⟩
  refine ⟨_, rfl, ?_⟩
  refine L_nil ?_
  refine C_seq ?_
  refine C_region ?_
  refine L_y rfl (y_move rfl) rfl ?_
  refine L_y rfl (y_move rfl) rfl ?_
  refine L_op rfl (op_call rfl rfl (fun a w => Try.call22 a w) rfl ?_)
  refine (FnS.sub (hsub_pick [1, 0] rfl) (mread_b p4 p5 p6 hT7 (show GoodAt Try.prog _ _ mm.gv goodP by rw [p8]; exact good_at) (t : Int))).mono ?_
  rintro _ _ ⟨e4, rfl⟩
  rw [rd_lost hV p7 p2 ht] at e4
  obtain rfl := e4
  refine ⟨_, rfl, ?_⟩
  refine L_y rfl (y_move rfl) rfl ?_
  refine L_y rfl (y_extract rfl rfl) rfl ?_
  refine L_y rfl (y_extract rfl rfl) rfl ?_
  refine L_op rfl (op_alloc zl_32 rfl (fun B4 => ?_))
  refine L_op rfl (op_storeA 0 0 rfl rfl rfl sz_32 (by rw [bs_length, mrS_len hT7.oks]) rfl (bs_one _) (by simp) ?_)
  refine L_y rfl (y_assign rfl) rfl ?_
  refine L_nil ?_
  refine C_seq ?_
  refine C_region ?_
  refine L_y rfl (y_move rfl) rfl ?_
  refine L_op rfl (op_call rfl rfl (fun a w => Try.call34 a w) rfl ?_)
  refine (FnS.sub (hsub_pick [2] rfl) (out_d hT7 true false)).mono ?_
  rintro _ _ ⟨rfl, D8, hT8, rfl⟩
  rw [hV.outin] at hT8
  refine ⟨_, rfl, ?_⟩
  refine L_nil ?_
  refine C_seq ?_
  refine C_region ?_
  refine L_y rfl (y_move rfl) rfl ?_
  refine L_op rfl (op_call rfl rfl (fun a w => Try.call36 a w) rfl ?_)
  refine (FnS.sub (hsub_pick [2, 0] rfl) (sync_b p4 p5 p6 hT8 (show GoodAt Try.prog _ _ mm.gv goodP by rw [p8]; exact good_at) (fun i => by cases i; exact Nat.le_trans (hV.dev false).many (by decide); exact Nat.le_trans (hV.dev true).many (by decide)) (by omega) (by rw [p2, p3]; exact ⟨by simp, by simp⟩))).mono ?_
  rintro _ _ ⟨e4, D9, hT9, rfl⟩
  obtain ⟨s0, hV9, s2, s3, s4, s5, s6, s7, s8⟩ := synced (p := goodP) hV ht (sec3_len _ _ _) p7 p2 p3 hg2
  rw [s0] at e4
  obtain rfl := e4
  rw [p4] at s4
  rw [p5] at s5
  rw [p6] at s6
  rw [p7] at s7
  rw [p8] at s8
  generalize hm3 : syncM mm _ goodP = m9 at *
  generalize hA9 : syncA mm _ goodP = A9 at *
  have okZ := set_ok2 (n := t) (set_ok2 (X := (List.replicate 6 (secOf 0))) (n := t) (fun s hs => by rw [List.eq_of_mem_replicate hs]; exact secOf_len _) (sec3_len x y 9)) (sec3_len u v 9)
  have hS9 : Ms dt _ D9 A9 m9 6 (((List.replicate 6 (secOf 0)).set t (sec3 x y 9)).set t (sec3 u v 9)) (((List.replicate 6 (secOf 0)).set t (sec3 x y 9)).set t (sec3 u v 9)) 0 0 _ _ _ _ := ⟨hT9, hV9, s4, s5, s6, s7, s2, s3, s8, okZ, okZ⟩
  refine ⟨_, rfl, ?_⟩
  refine L_y rfl (y_assign rfl) rfl ?_
  refine L_nil ?_
  refine C_seq ?_
  refine C_region ?_
  refine L_y rfl (y_move rfl) rfl ?_
  refine L_op rfl (op_call rfl rfl (fun a w => Try.call34 a w) rfl ?_)
  refine (FnS.sub (hsub_pick [1] rfl) (out_d hT9 true true)).mono ?_
  rintro _ _ ⟨rfl, D10, hT10, rfl⟩
  refine ⟨_, rfl, ?_⟩
  refine L_nil ?_
  refine C_seq ?_
  refine C_region ?_
  refine L_y rfl (y_move rfl) rfl ?_
  refine L_y rfl (y_move rfl) rfl ?_
  refine L_op rfl (op_call rfl rfl (fun a w => Try.call22 a w) rfl ?_)
  refine (FnS.sub (hsub_pick [1, 0] rfl) (mread_b s4 s5 s6 hT10 (show GoodAt Try.prog _ _ m9.gv goodP by rw [s8]; exact good_at) (t : Int))).mono ?_
  rintro _ _ ⟨e4, rfl⟩
  obtain ⟨r1, r2⟩ := hS9.rd1 (p := goodP) true (n := t) (u := (sec3 u v 9)) (gset (hl2 t) ht)
  rw [hg2, if_pos rfl] at r1
  rw [hg2, if_pos rfl] at r2
  rw [r1, r2] at e4
  obtain rfl := e4
  refine ⟨_, rfl, ?_⟩
  refine L_y rfl (y_move rfl) rfl ?_
  refine L_y rfl (y_extract rfl rfl) rfl ?_
  refine L_y rfl (y_extract rfl rfl) rfl ?_
  refine L_op rfl (op_alloc zl_32 rfl (fun B5 => ?_))
  refine L_op rfl (op_storeA 0 0 rfl rfl rfl sz_32 (by rw [bs_length, sec3_len _ _ _]) rfl (bs_one _) (by simp) ?_)
  refine L_y rfl (y_assign rfl) rfl ?_
  refine L_nil ?_
  refine C_seq ?_
  refine C_region ?_
  refine L_y rfl (y_move rfl) rfl ?_
  refine L_y rfl (y_eqi rfl rfl) rfl ?_
  refine L_y rfl (y_move rfl) rfl ?_
  refine L_case 102 rfl (fun hg23_3 => ?_) (fun hg23_3 => ?_)
  · skip
    refine L_y rfl (y_move rfl) rfl ?_
    refine L_y rfl (y_eqi rfl rfl) rfl ?_
    refine L_y rfl (y_pick_t rfl rfl) rfl ?_
    refine L_y rfl (y_move rfl) rfl ?_
    refine L_case 106 rfl (fun hg23_7 => ?_) (fun hg23_7 => ?_)
    · skip
      refine L_y rfl (y_loadA rfl ag_32 sz_32 (sees 4 0 rfl) (by rw [bs_length, sec3_len _ _ _]; decide) (bs_whole0 _ (sec3_len _ _ _))) rfl ?_
      refine L_y rfl (y_loadA rfl ag_32 sz_32 (sees 5 0 rfl) (by rw [bs_length, sec3_len _ _ _]; decide) (bs_whole0 _ (sec3_len _ _ _))) rfl ?_
      refine L_y rfl (y_eqa rfl rfl Try.underlying32 Try.underlying5 sz_5 eg_32 (sec3_len _ _ _) (sec3_len _ _ _)) rfl ?_
      refine L_y rfl (y_pick_t rfl rfl) rfl ?_
      refine L_y rfl (y_move rfl) rfl ?_
      refine L_case 111 rfl (fun hg23_12 => ?_) (fun hg23_12 => ?_)
      · skip
        refine L_y rfl (y_move rfl) rfl ?_
        refine L_y rfl (y_eqi rfl rfl) rfl ?_
        refine L_y rfl (y_pick_t rfl rfl) rfl ?_
        refine L_y rfl (y_move rfl) rfl ?_
        refine L_case 115 rfl (fun hg23_16 => ?_) (fun hg23_16 => ?_)
        · skip
          refine L_y rfl (y_move rfl) rfl ?_
          refine L_y rfl (y_eqi rfl rfl) rfl ?_
          refine L_y rfl (y_pick_t rfl rfl) rfl ?_
          refine L_y rfl (y_move rfl) rfl ?_
          refine L_case 119 rfl (fun hg23_20 => ?_) (fun hg23_20 => ?_)
          · skip
            refine L_y rfl (y_move rfl) rfl ?_
            refine L_y rfl (y_eqi rfl rfl) rfl ?_
            refine L_y rfl (y_pick_t rfl rfl) rfl ?_
            refine L_y rfl (y_move rfl) rfl ?_
            refine L_case 123 rfl (fun hg23_24 => ?_) (fun hg23_24 => ?_)
            · skip
              refine L_y rfl (y_move rfl) rfl ?_
              refine L_y rfl (y_eqi rfl rfl) rfl ?_
              refine L_y rfl (y_pick_t rfl rfl) rfl ?_
              refine L_y rfl (y_move rfl) rfl ?_
              refine L_case 127 rfl (fun hg23_28 => ?_) (fun hg23_28 => ?_)
              · skip
                refine L_y rfl (y_move rfl) rfl ?_
                refine L_y rfl (y_eqi rfl rfl) rfl ?_
                refine L_y rfl (y_pick_t rfl rfl) rfl ?_
                refine L_y rfl (y_move rfl) rfl ?_
                refine L_case 131 rfl (fun hg23_32 => ?_) (fun hg23_32 => ?_)
                · skip
                  refine L_y rfl (y_loadA rfl ag_32 sz_32 (sees 0 0 rfl) (by rw [bs_length, sec3_len _ _ _]; decide) (bs_whole0 _ (sec3_len _ _ _))) rfl ?_
                  refine L_y rfl (y_loadA rfl ag_32 sz_32 (sees 5 0 rfl) (by rw [bs_length, sec3_len _ _ _]; decide) (bs_whole0 _ (sec3_len _ _ _))) rfl ?_
                  refine L_y rfl (y_eqa rfl rfl Try.underlying32 Try.underlying5 sz_5 eg_32 (sec3_len _ _ _) (sec3_len _ _ _)) rfl ?_
                  refine L_y rfl (y_pick_t rfl rfl) rfl ?_
                  refine L_y rfl (y_assign rfl) rfl ?_
                  refine L_nil ?_
                  refine C_ret ?_
                  refine B_ret (rv_tmp rfl rv_nil) (HSub.refl _) ?_
                  first | rfl | exact ret_bool (by simp)
                · exact absurd hg23_32 (by simp)
              · exact absurd hg23_28 (by simp)
            · exact absurd hg23_24 (by simp)
          · exact absurd hg23_20 (by simp)
        · exact absurd hg23_16 (by simp)
      · exact absurd hg23_12 (by simp)
    · exact absurd hg23_7 (by simp)
  · exact absurd hg23_3 (by simp)

set_option maxHeartbeats 4000000 in

theorem misses_tf {w0 : World} {H : Hp} (n : Nat) (hn : n < 256) (x y u v : UInt8) (hg1 : goodP ((n % 6 : Nat) : Int) (sec3 x y 9) = true) (hg2 : goodP ((n % 6 : Nat) : Int) (sec3 u v 9) = false) : FnS Try.prog w0 6 #[.int .u8 (n : Int), .int .u8 (x.toNat : Int), .int .u8 (y.toNat : Int), .int .u8 (u.toNat : Int), .int .u8 (v.toNat : Int)] H (fun e H' => e = .returned (.bool true)) := by
  refine FnS_intro (n := 136) (rs := [.tmp 10]) (vs := [.int .u8 (n : Int), .int .u8 (x.toNat : Int), .int .u8 (y.toNat : Int), .int .u8 (u.toNat : Int), .int .u8 (v.toNat : Int)]) Try.func6 rfl Try.ntmps6 rfl rfl ?_
  refine C_seq ?_
  refine C_region ?_
  refine L_y rfl (y_assign rfl) rfl ?_
  refine L_nil ?_
  refine C_seq ?_
  refine C_seq ?_
  refine C_region ?_
  refine L_op rfl (op_call rfl rfl (fun a w => Try.call15 a w) rfl ?_)
  refine awake09_s.mono ?_
  rintro _ _ ⟨rfl, e⟩
  obtain rfl := e.symm
  clear e
  refine ⟨_, rfl, ?_⟩
  refine L_y rfl (y_not rfl) rfl ?_
  refine L_nil ?_
  refine C_cond_f rfl ?_
  refine C_skip ?_
  refine C_seq ?_
  obtain ⟨t, htt⟩ : ∃ t, n % 6 = t := ⟨_, rfl⟩
  rw [htt] at hg1 hg2
  have ht : t < 6 := by omega
  have hl2 : ∀ t, ((List.replicate 6 (secOf 0)).set t (sec3 x y 9)).length = 6 := fun t => by simp
  refine C_region ?_
  refine L_y rfl (y_move rfl) rfl ?_
  refine L_y rfl (y_conv rfl us_5 Try.underlying3 (wi64 (by omega) (by omega))) rfl ?_
  refine L_y rfl (y_rem rfl rfl (by decide) (show _ = ((t : Nat) : Int) from by rw [← htt]; rfl)) rfl ?_
  refine L_y rfl (y_assign rfl) rfl ?_
  refine L_nil ?_
  refine C_seq ?_
  refine C_region ?_
  refine L_y rfl (y_move rfl) rfl ?_
  refine L_y rfl (y_move rfl) rfl ?_
  refine L_op rfl (op_call rfl rfl (fun a w => Try.call20 a w) rfl ?_)
  refine (sector3_s x y).mono ?_
  rintro _ _ ⟨rfl, e⟩
  obtain rfl := e.symm
  clear e
  refine ⟨_, rfl, ?_⟩
  refine L_y rfl (y_move rfl) rfl ?_
  refine L_y rfl (y_move rfl) rfl ?_
  refine L_op rfl (op_call rfl rfl (fun a w => Try.call20 a w) rfl ?_)
  refine (sector3_s u v).mono ?_
  rintro _ _ ⟨rfl, e⟩
  obtain rfl := e.symm
  clear e
  refine ⟨_, rfl, ?_⟩
  refine L_op rfl (op_alloc zl_32 rfl (fun B1 => ?_))
  refine L_op rfl (op_alloc zl_32 rfl (fun B2 => ?_))
  refine L_op rfl (op_storeA 1 0 rfl rfl rfl sz_32 (by rw [bs_length, sec3_len _ _ _]) rfl (bs_one _) (by simp) ?_)
  refine L_op rfl (op_storeA 0 0 rfl rfl rfl sz_32 (by rw [bs_length, sec3_len _ _ _]) rfl (bs_one _) (by simp) ?_)
  refine L_nil ?_
  refine C_seq ?_
  refine C_seq ?_
  refine C_region ?_
  refine L_y rfl (y_move rfl) rfl ?_
  refine L_y rfl (y_loadA rfl ag_32 sz_32 (sees 1 0 rfl) (by rw [bs_length, sec3_len _ _ _]; decide) (bs_whole0 _ (sec3_len _ _ _))) rfl ?_
  refine L_op rfl (op_call rfl rfl (fun a w => Try.call18 a w) rfl ?_)
  refine (good09_s (t : Int) _ (sec3_len _ _ _)).mono ?_
  rintro _ _ ⟨e4, e⟩
  obtain rfl := e.symm
  clear e
  rw [hg1] at e4
  obtain rfl := e4
  refine ⟨_, rfl, ?_⟩
  refine L_y rfl (y_not rfl) rfl ?_
  refine L_y rfl (y_move rfl) rfl ?_
  refine L_y rfl (y_move rfl) rfl ?_
  refine L_y rfl (y_loadA rfl ag_32 sz_32 (sees 0 0 rfl) (by rw [bs_length, sec3_len _ _ _]; decide) (bs_whole0 _ (sec3_len _ _ _))) rfl ?_
  refine L_op rfl (op_call rfl rfl (fun a w => Try.call18 a w) rfl ?_)
  refine (good09_s (t : Int) _ (sec3_len _ _ _)).mono ?_
  rintro _ _ ⟨e4, e⟩
  obtain rfl := e.symm
  clear e
  rw [hg2] at e4
  obtain rfl := e4
  refine ⟨_, rfl, ?_⟩
  refine L_y rfl (y_not rfl) rfl ?_
  refine L_y rfl (y_pick_f rfl rfl) rfl ?_
  refine L_nil ?_
  refine C_cond_t rfl ?_
  refine C_seq ?_
  refine C_region ?_
  refine L_y rfl (y_assign rfl) rfl ?_
  refine L_nil ?_
  refine C_ret ?_
  refine B_ret (rv_tmp rfl rv_nil) (HSub.refl _) ?_
  first | rfl | exact ret_bool (by simp)

set_option maxHeartbeats 4000000 in

theorem misses_f {w0 : World} {H : Hp} (n : Nat) (hn : n < 256) (x y u v : UInt8) (hg1 : goodP ((n % 6 : Nat) : Int) (sec3 x y 9) = false) : FnS Try.prog w0 6 #[.int .u8 (n : Int), .int .u8 (x.toNat : Int), .int .u8 (y.toNat : Int), .int .u8 (u.toNat : Int), .int .u8 (v.toNat : Int)] H (fun e H' => e = .returned (.bool true)) := by
  refine FnS_intro (n := 136) (rs := [.tmp 10]) (vs := [.int .u8 (n : Int), .int .u8 (x.toNat : Int), .int .u8 (y.toNat : Int), .int .u8 (u.toNat : Int), .int .u8 (v.toNat : Int)]) Try.func6 rfl Try.ntmps6 rfl rfl ?_
  refine C_seq ?_
  refine C_region ?_
  refine L_y rfl (y_assign rfl) rfl ?_
  refine L_nil ?_
  refine C_seq ?_
  refine C_seq ?_
  refine C_region ?_
  refine L_op rfl (op_call rfl rfl (fun a w => Try.call15 a w) rfl ?_)
  refine awake09_s.mono ?_
  rintro _ _ ⟨rfl, e⟩
  obtain rfl := e.symm
  clear e
  refine ⟨_, rfl, ?_⟩
  refine L_y rfl (y_not rfl) rfl ?_
  refine L_nil ?_
  refine C_cond_f rfl ?_
  refine C_skip ?_
  refine C_seq ?_
  obtain ⟨t, htt⟩ : ∃ t, n % 6 = t := ⟨_, rfl⟩
  rw [htt] at hg1
  have ht : t < 6 := by omega
  have hl2 : ∀ t, ((List.replicate 6 (secOf 0)).set t (sec3 x y 9)).length = 6 := fun t => by simp
  refine C_region ?_
  refine L_y rfl (y_move rfl) rfl ?_
  refine L_y rfl (y_conv rfl us_5 Try.underlying3 (wi64 (by omega) (by omega))) rfl ?_
  refine L_y rfl (y_rem rfl rfl (by decide) (show _ = ((t : Nat) : Int) from by rw [← htt]; rfl)) rfl ?_
  refine L_y rfl (y_assign rfl) rfl ?_
  refine L_nil ?_
  refine C_seq ?_
  refine C_region ?_
  refine L_y rfl (y_move rfl) rfl ?_
  refine L_y rfl (y_move rfl) rfl ?_
  refine L_op rfl (op_call rfl rfl (fun a w => Try.call20 a w) rfl ?_)
  refine (sector3_s x y).mono ?_
  rintro _ _ ⟨rfl, e⟩
  obtain rfl := e.symm
  clear e
  refine ⟨_, rfl, ?_⟩
  refine L_y rfl (y_move rfl) rfl ?_
  refine L_y rfl (y_move rfl) rfl ?_
  refine L_op rfl (op_call rfl rfl (fun a w => Try.call20 a w) rfl ?_)
  refine (sector3_s u v).mono ?_
  rintro _ _ ⟨rfl, e⟩
  obtain rfl := e.symm
  clear e
  refine ⟨_, rfl, ?_⟩
  refine L_op rfl (op_alloc zl_32 rfl (fun B1 => ?_))
  refine L_op rfl (op_alloc zl_32 rfl (fun B2 => ?_))
  refine L_op rfl (op_storeA 1 0 rfl rfl rfl sz_32 (by rw [bs_length, sec3_len _ _ _]) rfl (bs_one _) (by simp) ?_)
  refine L_op rfl (op_storeA 0 0 rfl rfl rfl sz_32 (by rw [bs_length, sec3_len _ _ _]) rfl (bs_one _) (by simp) ?_)
  refine L_nil ?_
  refine C_seq ?_
  refine C_seq ?_
  refine C_region ?_
  refine L_y rfl (y_move rfl) rfl ?_
  refine L_y rfl (y_loadA rfl ag_32 sz_32 (sees 1 0 rfl) (by rw [bs_length, sec3_len _ _ _]; decide) (bs_whole0 _ (sec3_len _ _ _))) rfl ?_
  refine L_op rfl (op_call rfl rfl (fun a w => Try.call18 a w) rfl ?_)
  refine (good09_s (t : Int) _ (sec3_len _ _ _)).mono ?_
  rintro _ _ ⟨e4, e⟩
  obtain rfl := e.symm
  clear e
  rw [hg1] at e4
  obtain rfl := e4
  refine ⟨_, rfl, ?_⟩
  refine L_y rfl (y_not rfl) rfl ?_
  refine L_y rfl (y_move rfl) rfl ?_
  refine L_skip rfl rfl ?_
  refine L_skip rfl rfl ?_
  refine L_skip rfl rfl ?_
  refine L_skip rfl rfl ?_
  refine L_y rfl (y_pick_t rfl rfl) rfl ?_
  refine L_nil ?_
  refine C_cond_t rfl ?_
  refine C_seq ?_
  refine C_region ?_
  refine L_y rfl (y_assign rfl) rfl ?_
  refine L_nil ?_
  refine C_ret ?_
  refine B_ret (rv_tmp rfl rv_nil) (HSub.refl _) ?_
  first | rfl | exact ret_bool (by simp)

end Go.Proofs.Ytfijmjolchdkfaa

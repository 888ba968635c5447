/- Own work: texts VzW, Ac, Fe, L4W, Rw, Rg, Ra, put together. -/
import Derived.Test.YtjjiclgbdenkkaaProg
import Derived.ShutString
import Derived.OpenShut
import Derived.Carry
import Derived.Deep.Slices
import Derived.Test.YtjjiclgbdenkkaaMMirrorOnee
/- walks (own work; the walks' lines by a program of this repo). -/
set_option linter.unusedVariables false
set_option linter.unusedSimpArgs false
set_option maxRecDepth 20000
namespace Go.Proofs.Ytjjiclgbdenkkaa
open Go.Sl
attribute [local irreducible] BodyQ WpC WpL WpS WpH OpW FnS


theorem write_r {w0 : World} {H : Hp} {gv : Value} {D : Duo} {A : Da} {m : Mi} {r : Rm} {K k0 k1 mb bx bys bp : Nat} (h : Mq dt gv D A m r K k0 k1 mb bx bys bp) (n : Int) (s : Sec) (hs : s.length = 128) (h0 : k0 < 99990) (h1 : k1 < 99990) : FnS Try.prog w0 19 #[ptr mb, .int .i64 n, .agg (bs s).toArray] (m.seg 110 :: D.seg dt :: H) (fun e H' => e = .returned (.int .i64 (r.writeE n)) ∧ ∃ D' A' m', Mq dt gv D' A' m' (r.write n s) K (k0 + 1) (k1 + 1) mb bx bys bp ∧ H' = m'.seg 110 :: D'.seg dt :: H) := by
  obtain ⟨e, v⟩ := h.rel.put (ask := askAll) n hs (askrel_all n s)
  have hq : ∀ i, (A.dev i).Q.length < 99990 := fun i => Nat.lt_of_le_of_lt (h.many (c := 99989) (by omega) (by omega) i) (by decide)
  have := mwrite_m (w0 := w0) (H := H) h.two2 n s hs hq
  rw [e, h.mb] at this
  refine this.mono ?_
  rintro _ _ ⟨rfl, D', hT', rfl⟩
  exact ⟨rfl, D', _, _, h.with hT' v (putm_same _ _ _ _ _), rfl⟩

theorem choose_r {w0 : World} {H : Hp} {gv : Value} {D : Duo} {A : Da} {m : Mi} {r : Rm} {K k0 k1 mb bx bys bp : Nat} (h : Mq dt gv D A m r K k0 k1 mb bx bys bp) (n : Int) (s : Sec) (hs : s.length = 128) (h0 : k0 < 99990) (h1 : k1 < 99990) : FnS Try.prog w0 31 #[ptr mb, .int .i64 n, .agg (bs s).toArray] (m.seg 110 :: D.seg dt :: H) (fun e H' => e = .returned (.int .i64 (r.writeE n)) ∧ ∃ D' A' m', Mq dt gv D' A' m' (r.write n s) K (k0 + 1) (k1 + 1) mb bx bys bp ∧ H' = m'.seg 110 :: D'.seg dt :: H) := by
  obtain ⟨e, v⟩ := h.rel.put (ask := (askNew n s)) n hs (askrel_new n s)
  have hq : ∀ i, (A.dev i).Q.length < 99990 := fun i => Nat.lt_of_le_of_lt (h.many (c := 99989) (by omega) (by omega) i) (by decide)
  have := mchoose_m (w0 := w0) (H := H) h.two2 n s hs hq
  rw [e, h.mb] at this
  refine this.mono ?_
  rintro _ _ ⟨rfl, D', hT', rfl⟩
  exact ⟨rfl, D', _, _, h.with hT' v (putm_same _ _ _ _ _), rfl⟩

theorem flush_r {w0 : World} {H : Hp} {gv : Value} {D : Duo} {A : Da} {m : Mi} {r : Rm} {K k0 k1 mb bx bys bp : Nat} (h : Mq dt gv D A m r K k0 k1 mb bx bys bp) : FnS Try.prog w0 21 #[ptr mb] (m.seg 110 :: D.seg dt :: H) (fun e H' => e = .returned (.int .i64 (if r.x.o && r.y.o then 13 else 0)) ∧ ∃ D' A' m', Mq dt gv D' A' m' r K 0 0 mb bx bys bp ∧ H' = m'.seg 110 :: D'.seg dt :: H) := by
  obtain ⟨e, v⟩ := h.rel.mfl
  have := mflush_m (w0 := w0) (H := H) h.two2
  rw [e, h.mb] at this
  refine this.mono ?_
  rintro _ _ ⟨rfl, D', hT', rfl⟩
  exact ⟨rfl, D', _, _, h.with hT' v ⟨rfl, rfl, rfl, rfl⟩, rfl⟩

theorem read_r {w0 : World} {H : Hp} {gv : Value} {D : Duo} {A : Da} {m : Mi} {r : Rm} {K k0 k1 mb bx bys bp : Nat} (h : Mq dt gv D A m r K k0 k1 mb bx bys bp) {p : Int → Sec → Bool} (hG : GoodAt Try.prog w0 H gv p) (n : Int) : FnS Try.prog w0 22 #[ptr mb, .int .i64 n] (m.seg 110 :: D.seg dt :: H) (fun e H' => e = .returned (.tuple #[.agg (bs (r.readS p n)).toArray, .int .i64 (r.readE p n)]) ∧ H' = m.seg 110 :: D.seg dt :: H) := by
  have := mread_m (w0 := w0) (H := H) h.two2 (p := p) (by rw [h.gv]; exact hG) n
  rw [(h.rel.read n).1, (h.rel.read n).2, h.mb] at this
  exact this

theorem heal_r {w0 : World} {H : Hp} {gv : Value} {D : Duo} {A : Da} {m : Mi} {r : Rm} {K k0 k1 mb bx bys bp : Nat} (h : Mq dt gv D A m r K k0 k1 mb bx bys bp) {p : Int → Sec → Bool} (hG : GoodAt Try.prog w0 H gv p) (n : Int) (h0 : k0 < 99990) (h1 : k1 < 99990) : FnS Try.prog w0 23 #[ptr mb, .int .i64 n] (m.seg 110 :: D.seg dt :: H) (fun e H' => e = .returned (.tuple #[.int .i64 (r.healR p n).1, .int .i64 (r.healR p n).2]) ∧ ∃ D' A' m', Mq dt gv D' A' m' (r.heal p n) K (k0 + 1) (k1 + 1) mb bx bys bp ∧ H' = m'.seg 110 :: D'.seg dt :: H) := by
  obtain ⟨e, v⟩ := h.rel.heal (p := p) n
  have hq : ∀ i, (A.dev i).Q.length < 99990 := fun i => Nat.lt_of_le_of_lt (h.many (c := 99989) (by omega) (by omega) i) (by decide)
  have := heal_m (w0 := w0) (H := H) h.two2 (p := p) (by rw [h.gv]; exact hG) n hq
  rw [e, h.mb] at this
  refine this.mono ?_
  rintro _ _ ⟨rfl, D', hT', rfl⟩
  exact ⟨rfl, D', _, _, h.with hT' v (healM_same2 _ _ _ _), rfl⟩

theorem both_r {w0 : World} {H : Hp} {gv : Value} {D : Duo} {A : Da} {m : Mi} {r : Rm} {K k0 k1 mb bx bys bp : Nat} (h : Mq dt gv D A m r K k0 k1 mb bx bys bp) {p : Int → Sec → Bool} (hG : GoodAt Try.prog w0 H gv p) (n : Int) : FnS Try.prog w0 25 #[ptr mb, .int .i64 n] (m.seg 110 :: D.seg dt :: H) (fun e H' => ∃ g, slOk 128 g (r.both p n).length (bs (r.both p n).flatten) ∧ e = .returned (slV g (r.both p n).length) ∧ H' = slSeg 32 g (bs (r.both p n).flatten) :: m.seg 110 :: D.seg dt :: H) := by
  have := both_m (w0 := w0) (H := H) h.two2 (p := p) (by rw [h.gv]; exact hG) n
  rw [h.rel.both n, h.mb] at this
  exact this

theorem sync_r {w0 : World} {H : Hp} {gv : Value} {D : Duo} {A : Da} {m : Mi} {r : Rm} {K k0 k1 mb bx bys bp : Nat} (h : Mq dt gv D A m r K k0 k1 mb bx bys bp) {p : Int → Sec → Bool} (hG : GoodAt Try.prog w0 H gv p) (h0 : k0 ≤ 50000) (h1 : k1 ≤ 50000) (hK : K ≤ 4096) : FnS Try.prog w0 32 #[ptr mb] (m.seg 110 :: D.seg dt :: H) (fun e H' => e = .returned (.int .i64 (r.syncE p)) ∧ ∃ D' A' m', Mq dt gv D' A' m' (r.sync p) K k0 k1 mb bx bys bp ∧ H' = m'.seg 110 :: D'.seg dt :: H) := by
  obtain ⟨e, v⟩ := h.rel.sync (p := p)
  obtain ⟨c1, c2, c3, c4⟩ := h.rel.cnts
  have hn := h.rel.n
  have := sync_m (w0 := w0) (H := H) h.two2 (p := p) (by rw [h.gv]; exact hG) (h.many h0 h1) (by omega) (by omega)
  rw [e, h.mb] at this
  refine this.mono ?_
  rintro _ _ ⟨rfl, D', hT', rfl⟩
  exact ⟨rfl, D', _, _, h.with hT' v (syncM_same _ _ _), rfl⟩

theorem stale_r {w0 : World} {H : Hp} {gv : Value} {D : Duo} {A : Da} {m : Mi} {r : Rm} {K k0 k1 mb bx bys bp : Nat} (h : Mq dt gv D A m r K k0 k1 mb bx bys bp) : FnS Try.prog w0 35 #[ptr mb] (m.seg 110 :: H) (fun e H' => e = .returned (.tuple #[.int .i64 (r.x.cnt : Int), .int .i64 (r.y.cnt : Int)]) ∧ H' = m.seg 110 :: H) := by
  obtain ⟨c1, c2, _⟩ := h.rel.cnts
  have := stale_m (w0 := w0) (H := H) (m := m)
  rw [c1, c2, h.mb] at this
  exact this

theorem out_r {w0 : World} {H : Hp} {gv : Value} {D : Duo} {A : Da} {m : Mi} {r : Rm} {K mb bx bys bp : Nat} (h : Mq dt gv D A m r K 0 0 mb bx bys bp) (i on : Bool) : FnS Try.prog w0 33 #[ptr (sel bx bys i), .bool on] (D.seg dt :: H) (fun e H' => e = .returned (.tuple #[]) ∧ ∃ D' A', Mq dt gv D' A' m (r.outs i on) K 0 0 mb bx bys bp ∧ H' = D'.seg dt :: H) := by
  refine (out_d h.two i on).mono ?_
  rintro _ _ ⟨rfl, D', hT', rfl⟩
  exact ⟨rfl, D', _, ⟨hT', h.rel.outs i on, h.mb, h.bx, h.bys, h.gv⟩, rfl⟩

theorem rot_r {w0 : World} {H : Hp} {gv : Value} {D : Duo} {A : Da} {m : Mi} {r : Rm} {K mb bx bys bp : Nat} (h : Mq dt gv D A m r K 0 0 mb bx bys bp) (i : Bool) (n : Int) {j : Nat} {c : UInt8} (hj : j < 128) : FnS Try.prog w0 34 #[ptr (sel bx bys i), .int .i64 n, .int .i64 (j : Int), .int .u8 (c.toNat : Int)] (D.seg dt :: H) (fun e H' => e = .returned (.bool (r.has n)) ∧ ∃ D' A', Mq dt gv D' A' m (r.rot i n j c) K 0 0 mb bx bys bp ∧ H' = D'.seg dt :: H) := by
  obtain ⟨e, v⟩ := h.rel.rot i n (c := c) hj
  refine (rot_d h.two i n (j : Int) c).mono ?_
  rintro _ _ ⟨rfl, D', hT', rfl⟩
  rw [e]
  exact ⟨rfl, D', _, ⟨hT', v, h.mb, h.bx, h.bys, h.gv⟩, rfl⟩

theorem new_r {w0 : World} {H : Hp} {f : Nat} {cap : List Value} {D : Duo} {A : Da} {K bx bys bp : Nat} {a b : Bool} (hT : Two dt D A bx bys bp) (hK : K ≤ 4096) (hc : A.calm) (hx : A.a = (Ab.new K).outs a) (hy : A.b = (Ab.new K).outs b) : FnS Try.prog w0 17 #[ptr bx, ptr bys, .func (.func f) #[] cap.toArray] (D.seg dt :: H) (fun e H' => ∃ mb m, Mq dt (.func (.func f) #[] cap.toArray) D A m (Rm.new K a b) K 0 0 mb bx bys bp ∧ e = .returned (ptr mb) ∧ H' = m.seg 110 :: D.seg dt :: H) := by
  refine (mnew_fn hT).mono ?_
  rintro _ _ ⟨mb, r0, r1, rfl, rfl⟩
  exact ⟨mb, _, ⟨hT, Rel.new hK hc hx hy bx bys _ mb r0 r1, rfl, rfl, rfl, rfl⟩, rfl, rfl⟩

end Go.Proofs.Ytjjiclgbdenkkaa

/- The acts of the mirror's laws (own work). -/
set_option linter.unusedVariables false
set_option linter.unusedSimpArgs false
namespace Go.Sl
structure ActM where
  kind : Int
  n : Int
  x : UInt8
  y : UInt8
  on : Bool
abbrev acells (a : ActM) : List Value := [.int .i64 a.kind, .int .i64 a.n, .int .u8 (a.x.toNat : Int), .int .u8 (a.y.toNat : Int), .bool a.on]
def acts (l : List ActM) : List Value := (l.map acells).flatten
theorem acts_len (l : List ActM) : (acts l).length = l.length * 5 := by
  induction l with
  | nil => rfl
  | cons x l ih => simp only [acts, List.map_cons, List.flatten_cons, List.length_append, List.length_cons] at ih ⊢; rw [ih]; simp; omega
theorem acts_get : ∀ {l : List ActM} {i : Nat} {a : ActM}, l[i]? = some a → ((acts l).drop (i * 5)).take 5 = acells a
  | [], i, a, h => by simp at h
  | b :: l, 0, a, h => by
    simp at h; subst h
    simp only [acts, List.map_cons, List.flatten_cons, Nat.zero_mul, List.drop_zero]
    rfl
  | b :: l, i + 1, a, h => by
    simp only [List.getElem?_cons_succ] at h
    have := acts_get h
    simp only [acts, List.map_cons, List.flatten_cons] at this ⊢
    rw [show (i + 1) * 5 = 5 + i * 5 by omega, ← List.drop_drop]
    exact this
theorem act_at {l : List Value} {off i : Nat} {al : List ActM} {a : ActM} (hv : (l.drop off).take (acts al).length = acts al) (hi : al[i]? = some a) : (l.drop (off + i * 5)).take 5 = acells a := by
  have hlt := (List.getElem?_eq_some_iff.1 hi).1
  rw [← acts_get hi, ← hv, List.drop_take, List.take_take, List.drop_drop, acts_len]
  congr 1
  omega
/-- What is kept through MirrorOne. -/
structure OneS (r : Rm) (want : List Sec) (p : Int → Sec → Bool) (K : Nat) : Prop where
  one : One r want p K
  wok : ∀ s ∈ want, s.length = 128
theorem one0 (p : Int → Sec → Bool) : OneS (Rm.new 6 false false) (List.replicate 6 (secOf 0)) p 6 := by
  refine ⟨⟨rfl, fun n => ?_, by simp [Rm.new], by simp, fun n hn _ => ?_⟩, fun s hs => by rw [List.eq_of_mem_replicate hs]; exact secOf_len _⟩
  · show ([false, false, false, false, false, false] : List Bool).getD n false = false
    match n with
    | 0 | 1 | 2 | 3 | 4 | 5 => rfl
    | n + 6 => rfl
  · rfl
theorem want_get {want : List Sec} {K n : Nat} (h : want.length = K) (hn : n < K) : want[n]? = some (want.getD n []) := by
  rw [List.getD_eq_getElem?_getD, List.getElem?_eq_getElem (by omega)]; rfl
theorem want_len {want : List Sec} {K n : Nat} (h : want.length = K) (hn : n < K) (ok : ∀ s ∈ want, s.length = 128) : (want.getD n []).length = 128 := ok _ (List.mem_of_getElem? (want_get h hn))
end Go.Sl

/- Facts of the translation's types, for the kernel (own work, by a program of this repo). -/
namespace Go.Proofs.Ytjjiclgbdenkkaa
open Go.Sl
theorem ag_54 : isAggT Try.prog 54 = some true := by kernel_rfl
theorem fl_54_0 : fldT Try.prog 54 0 = some 0 := by kernel_rfl
theorem fl_54_1 : fldT Try.prog 54 1 = some 1 := by kernel_rfl
theorem fl_54_2 : fldT Try.prog 54 2 = some 2 := by kernel_rfl
theorem fl_54_3 : fldT Try.prog 54 3 = some 3 := by kernel_rfl
theorem fl_54_4 : fldT Try.prog 54 4 = some 4 := by kernel_rfl
theorem sz_51 : szT Try.prog 51 = some 2 := by kernel_rfl
theorem sz_54 : szT Try.prog 54 = some 5 := by kernel_rfl
theorem zl_51 : zeroL Try.prog 51 = some (List.replicate 2 (.pointer none)) := by kernel_rfl
theorem zl_52 : zeroL Try.prog 52 = some ((List.replicate 6 ((List.replicate 128 (.int .u8 0)))).flatten) := by kernel_rfl
theorem zl_54 : zeroL Try.prog 54 = some ([.int .i64 0, .int .i64 0, .int .u8 0, .int .u8 0, .bool false]) := by kernel_rfl
end Go.Proofs.Ytjjiclgbdenkkaa

/- walks (own work; the walks' lines by a program of this repo). -/
set_option linter.unusedVariables false
set_option linter.unusedSimpArgs false
set_option maxRecDepth 20000
namespace Go.Proofs.Ytjjiclgbdenkkaa
open Go.Sl
attribute [local irreducible] BodyQ WpC WpL WpS WpH OpW FnS



set_option maxHeartbeats 4000000 in

theorem one_s {w0 : World} {H : Hp} {pa : Option Addr} {ca : Nat} {ll : List ActM} (hA : Holds w0 H pa (acts ll)) : FnS Try.prog w0 5 #[.slice pa ll.length ca] H (fun e H' => e = .returned (.bool true)) := by
  refine FnS_intro (n := 167) (rs := [.tmp 2]) (vs := [.slice pa ll.length ca]) Try.func5 rfl Try.ntmps5 rfl rfl ?_
  refine C_seq ?_
  refine C_region ?_
  refine L_y rfl (y_assign rfl) rfl ?_
  refine L_nil ?_
  refine C_seq ?_
  refine C_seq ?_
  refine C_region ?_
  refine L_op rfl (op_call rfl rfl (fun a w => Try.call15 a w) rfl ?_)
  refine awake09_s.mono ?_
  rintro _ _ ⟨rfl, e⟩
  obtain rfl := e.symm
  clear e
  refine ⟨_, rfl, ?_⟩
  refine L_y rfl (y_not rfl) rfl ?_
  refine L_nil ?_
  refine C_cond_f rfl ?_
  refine C_skip ?_
  refine C_seq ?_
  refine C_seq ?_
  refine C_region ?_
  refine L_y rfl (y_move rfl) rfl ?_
  refine L_y rfl (y_lenS rfl rfl Try.underlying50) rfl ?_
  refine L_y rfl (y_gtr rfl rfl) rfl ?_
  refine L_nil ?_
  refine C_cond rfl (fun hc1 => ?_) (fun hc1 => ?_)
  · replace hc1 := of_decide_eq_true hc1
    refine C_seq ?_
    refine C_region ?_
    refine L_y rfl (y_assign rfl) rfl ?_
    refine L_nil ?_
    refine C_ret ?_
    refine B_ret (rv_tmp rfl rv_nil) (HSub.refl _) ?_
    first | rfl | exact ret_bool (by simp)
  · replace hc1 := of_decide_eq_false hc1
    refine C_skip ?_
    refine C_seq ?_
    refine C_region ?_
    refine L_op rfl (op_call rfl rfl (fun a w => Try.call16 a w) rfl ?_)
    refine (new_ln 6).mono ?_
    rintro _ _ ⟨d91, p91, hG91, ha91, hP91, rfl, rfl⟩
    have hA91 : d91.a = Ab.new 6 := by rw [ha91] <;> (rfl)
    have hb91 : d91.b = d91.b := rfl
    refine ⟨_, rfl, ?_⟩
    refine L_op rfl (op_call rfl rfl (fun a w => Try.call16 a w) rfl ?_)
    refine ((newnil_d hG91 rfl 6).sub (hsub_pick [0, 0, 0, 0, 0] rfl)).mono ?_
    rintro _ _ ⟨by81, D81, h81, rfl, rfl⟩
    replace h81 := h81.to (B := ⟨Ab.new 6, Ab.new 6, q0, some q0⟩) (by rw [hA91, hP91] <;> (rfl))
    have hv1 : Vw ⟨Ab.new 6, Ab.new 6, q0, some q0⟩ 6 (List.replicate 6 (secOf 0)) (List.replicate 6 (secOf 0)) 0 0 := Vw.new (by omega) (some q0) (.inr rfl)
    refine ⟨_, rfl, ?_⟩
    refine L_y rfl (y_buildA (vs := [(0, _), (1, _)]) rfl Try.underlying51 sz_24 zl_51 rfl) rfl ?_
    refine L_op rfl (op_alloc zl_51 rfl (fun B1 => ?_))
    refine L_op rfl (op_store 0 0 rfl rfl rfl sz_51 rfl rfl (ones rfl) (by decide) ?_)
    skip
    refine L_nil ?_
    refine C_seq ?_
    refine C_region ?_
    refine L_y rfl (y_indexA rfl rfl Try.underlying51 sz_24 (by omega) (by omega) (show _ = 0 from rfl)) rfl ?_
    refine L_y rfl (y_load rfl ag_24 (sees 0 0 rfl) rfl) rfl ?_
    refine L_y rfl (y_indexA rfl rfl Try.underlying51 sz_24 (by omega) (by omega) (show _ = 1 from rfl)) rfl ?_
    refine L_y rfl (y_load rfl ag_24 (sees 0 0 rfl) rfl) rfl ?_
    refine L_op rfl (op_call rfl rfl (fun a w => Try.call17 a w) rfl ?_)
    refine (FnS.sub (hsub_pick [1] rfl) (new_r (f := 18) (cap := []) (a := false) (b := false) (K := 6) h81 (by decide) ⟨rfl, rfl, fun q hq => by obtain rfl := (Option.some.inj hq); exact ⟨rfl, rfl⟩⟩ rfl rfl)).mono ?_
    rintro _ _ ⟨mb, m, hS, rfl, rfl⟩
    refine ⟨_, rfl, ?_⟩
    refine L_y rfl (y_assign rfl) rfl ?_
    refine L_nil ?_
    refine C_seq ?_
    refine C_region ?_
    refine L_op rfl (op_alloc zl_52 rfl (fun wt => ?_))
    rw [show (List.replicate 6 (List.replicate 128 (Value.int .u8 0))).flatten = bs (List.replicate 6 (secOf 0)).flatten from zsecs 6]
    refine L_nil ?_
    refine C_seq ?_
    refine C_seq ?_
    refine C_region ?_
    refine L_y rfl (y_assign rfl) rfl ?_
    refine L_nil ?_
    refine C_block ?_
    refine C_loop (ι := Duo × Da × Mi × Rm × List Sec × Nat) (fun i => [(0, .slice pa ll.length ca), (3, ptr B1), (4, ptr mb), (5, ptr wt), (6, .int .i64 (i.2.2.2.2.2 : Int))]) (fun i => i.2.2.1.seg 110 :: i.1.seg dt :: [(B1, .cells [ptr d91.b, ptr by81].toArray 51)] :: [(wt, .cells (bs i.2.2.2.2.1.flatten).toArray 52)] :: H) (fun i => Mq dt (.func (.func 18) #[] ([] : List Value).toArray) i.1 i.2.1 i.2.2.1 i.2.2.2.1 6 0 0 mb d91.b by81 p91.b ∧ OneS i.2.2.2.1 i.2.2.2.2.1 goodP 6 ∧ i.2.2.2.2.2 ≤ ll.length) (fun i => ll.length - i.2.2.2.2.2) (_, _, _, _, _, 0) ⟨hS, one0 goodP, Nat.zero_le _⟩ ⟨rfl, rfl, rfl, rfl, rfl, trivial⟩ ((hsub (.cons_cons _ (.cons_cons _ (.cons_cons _ (.cons_cons _ (.refl _)))))).trans (hsub_pick [1, 1, 1, 0] rfl)) (fun i hi => ?_)
    obtain ⟨D, A, m, r, want, i⟩ := i
    obtain ⟨hS, hO, hi⟩ := hi
    simp only at hS hO hi
    dsimp only
    refine C_seq ?_
    refine C_seq ?_
    refine C_region ?_
    refine L_y rfl (y_move rfl) rfl ?_
    refine L_y rfl (y_move rfl) rfl ?_
    refine L_y rfl (y_lenS rfl rfl Try.underlying50) rfl ?_
    refine L_y rfl (y_lss rfl rfl) rfl ?_
    refine L_nil ?_
    refine C_cond rfl (fun hc2 => ?_) (fun hc2 => ?_)
    · replace hc2 : i < ll.length := by have := of_decide_eq_true hc2; omega
      obtain ⟨⟨kind, n, x, y, on⟩, hx⟩ : ∃ a, ll[i]? = some a := ⟨_, List.getElem?_eq_getElem hc2⟩
      have hbx := x.toNat_lt
      obtain ⟨b1, o1, l1, T1, fr1, rfl, hs1, hle1, hv1⟩ := hA (by rw [acts_len]; omega)
      rw [acts_len] at hle1
      refine C_skip ?_
      refine C_seq ?_
      refine C_block ?_
      refine C_seq ?_
      refine C_region ?_
      refine L_y rfl (y_move rfl) rfl ?_
      refine L_y rfl (y_move rfl) rfl ?_
      refine L_y rfl (y_indexS rfl rfl Try.underlying50 sz_54 (by omega) (by omega) (show _ = o1 + i * 5 from by simp)) rfl ?_
      refine L_y rfl (y_loadA rfl ag_54 sz_54 (hs1.up.up.up.up) (by omega) (act_at hv1 hx)) rfl ?_
      refine L_op rfl (op_alloc zl_54 rfl (fun B3 => ?_))
      refine L_op rfl (op_store 0 0 rfl rfl rfl sz_54 rfl rfl (ones rfl) (by decide) ?_)
      skip
      refine L_nil ?_
      refine C_seq ?_
      refine C_region ?_
      refine L_y rfl (y_fieldAddr rfl fl_54_2) rfl ?_
      refine L_y rfl (y_load rfl ag_5 (sees 0 0 rfl) rfl) rfl ?_
      refine L_y rfl (y_fieldAddr rfl fl_54_3) rfl ?_
      refine L_y rfl (y_load rfl ag_5 (sees 0 0 rfl) rfl) rfl ?_
      refine L_op rfl (op_call rfl rfl (fun a w => Try.call20 a w) rfl ?_)
      refine (sector3_s x y).mono ?_
      rintro _ _ ⟨rfl, e⟩
      obtain rfl := e.symm
      clear e
      refine ⟨_, rfl, ?_⟩
      refine L_op rfl (op_alloc zl_32 rfl (fun B4 => ?_))
      refine L_op rfl (op_storeA 0 0 rfl rfl rfl sz_32 (by rw [bs_length, sec3_len _ _ _]) rfl (bs_one _) (by simp) ?_)
      refine L_nil ?_
      refine C_seq ?_
      refine C_region ?_
      refine L_y rfl (y_fieldAddr rfl fl_54_1) rfl ?_
      refine L_y rfl (y_load rfl ag_3 (sees 1 0 rfl) rfl) rfl ?_
      refine L_y rfl (y_geq rfl rfl) rfl ?_
      refine L_y rfl (y_move rfl) rfl ?_
      refine L_case 44 rfl (fun hg13_4 => ?_) (fun hg13_4 => ?_)
      · have hn0 : 0 ≤ n := of_decide_eq_true hg13_4
        refine L_y rfl (y_fieldAddr rfl fl_54_1) rfl ?_
        refine L_y rfl (y_load rfl ag_3 (sees 1 0 rfl) rfl) rfl ?_
        refine L_y rfl (y_lss rfl rfl) rfl ?_
        refine L_y rfl (y_pick_t rfl rfl) rfl ?_
        refine L_y rfl (y_assign rfl) rfl ?_
        refine L_nil ?_
        refine C_seq ?_
        refine C_seq ?_
        refine C_region ?_
        refine L_y rfl (y_fieldAddr rfl fl_54_0) rfl ?_
        refine L_y rfl (y_load rfl ag_3 (sees 1 0 rfl) rfl) rfl ?_
        refine L_nil ?_
        refine C_block ?_
        refine C_seq ?_
        refine C_seq ?_
        refine C_region ?_
        refine L_y rfl (y_eqi rfl rfl) rfl ?_
        refine L_y rfl (y_assign rfl) rfl ?_
        refine L_nil ?_
        refine C_cond rfl (fun hc3 => ?_) (fun hc3 => ?_)
        · replace hc3 := of_decide_eq_true hc3
          refine C_skip ?_
          refine C_cond rfl (fun hc4 => ?_) (fun hc4 => absurd hc4 (by intro e; exact of_decide_eq_false e hc3))
          refine C_seq ?_
          refine C_region ?_
          refine L_y rfl (y_move rfl) rfl ?_
          refine L_y rfl (y_move rfl) rfl ?_
          refine L_case 55 rfl (fun hg17_2 => ?_) (fun hg17_2 => ?_)
          · have hn6 : n < 6 := of_decide_eq_true hg17_2
            refine L_y rfl (y_fieldAddr rfl fl_54_1) rfl ?_
            refine L_y rfl (y_load rfl ag_3 (sees 1 0 rfl) rfl) rfl ?_
            refine L_y rfl (y_loadA rfl ag_32 sz_32 (sees 0 0 rfl) (by rw [bs_length, sec3_len _ _ _]; decide) (bs_whole0 _ (sec3_len _ _ _))) rfl ?_
            refine L_op rfl (op_call rfl rfl (fun a w => Try.call18 a w) rfl ?_)
            refine (good09_s n (sec3 x y 9) (sec3_len _ _ _)).mono ?_
            rintro _ _ ⟨e4, e⟩
            obtain rfl := e.symm
            clear e
            obtain rfl := e4
            refine ⟨_, rfl, ?_⟩
            refine L_y rfl (y_pick_t rfl rfl) rfl ?_
            refine L_nil ?_
            refine C_cond rfl (fun hc5 => ?_) (fun hc5 => ?_)
            · skip
              refine C_seq ?_
              obtain ⟨k, rfl⟩ : ∃ k : Nat, n = k := ⟨n.toNat, by omega⟩
              have hk6 : k < 6 := by omega
              refine C_region ?_
              refine L_y rfl (y_fieldAddr rfl fl_54_1) rfl ?_
              refine L_y rfl (y_load rfl ag_3 (sees 1 0 rfl) rfl) rfl ?_
              refine L_y rfl (y_loadA rfl ag_32 sz_32 (sees 0 0 rfl) (by rw [bs_length, sec3_len _ _ _]; decide) (bs_whole0 _ (sec3_len _ _ _))) rfl ?_
              refine L_y rfl (y_indexA rfl rfl Try.underlying52 sz_32 (by omega) (by omega) (show _ = k * 128 from by simp)) rfl ?_
              refine L_op rfl (op_store 5 0 rfl rfl rfl sz_32 (by rw [bs_length, sec3_len]) rfl (bs_one _) (by rw [bs_length, flat_len hO.wok, hO.one.wlen]; omega) ?_)
              rw [flat_spl hO.wok (by rw [hO.one.wlen]; omega) (sec3_len _ _ _)]
              refine L_nil ?_
              refine C_seq ?_
              refine C_region ?_
              refine L_y rfl (y_fieldAddr rfl fl_54_0) rfl ?_
              refine L_y rfl (y_load rfl ag_3 (sees 1 0 rfl) rfl) rfl ?_
              refine L_y rfl (y_eqi rfl rfl) rfl ?_
              refine L_y rfl (y_move rfl) rfl ?_
              refine L_case 68 rfl (fun hg19_4 => ?_) (fun hg19_4 => ?_)
              · skip
                refine L_y rfl (y_move rfl) rfl ?_
                refine L_y rfl (y_fieldAddr rfl fl_54_1) rfl ?_
                refine L_y rfl (y_load rfl ag_3 (sees 1 0 rfl) rfl) rfl ?_
                refine L_y rfl (y_loadA rfl ag_32 sz_32 (sees 0 0 rfl) (by rw [bs_length, sec3_len _ _ _]; decide) (bs_whole0 _ (sec3_len _ _ _))) rfl ?_
                refine L_op rfl (op_call rfl rfl (fun a w => Try.call19 a w) rfl ?_)
                refine (FnS.sub (hsub_pick [2, 2] rfl) (write_r hS (k : Int) (sec3 x y 9) (sec3_len _ _ _) (by omega) (by omega))).mono ?_
                rintro _ _ ⟨e4, D1, A1, m1, hS1, rfl⟩
                rw [(hO.one.write (s := (sec3 x y 9)) hk6).2] at e4
                obtain rfl := e4
                refine ⟨_, rfl, ?_⟩
                refine L_y rfl (y_nei rfl rfl) rfl ?_
                refine L_y rfl (y_pick_t rfl rfl) rfl ?_
                refine L_y rfl (y_move rfl) rfl ?_
                refine L_y rfl (y_fieldAddr rfl fl_54_0) rfl ?_
                refine L_y rfl (y_load rfl ag_3 (sees 3 0 rfl) rfl) rfl ?_
                refine L_y rfl (y_eqi rfl rfl) rfl ?_
                refine L_y rfl (y_move rfl) rfl ?_
                refine L_case 80 rfl (fun hg19_16 => ?_) (fun hg19_16 => ?_)
                · exact absurd (of_decide_eq_true hg19_16) (by rw [hc3]; decide)
                · skip
                  refine L_skip rfl rfl ?_
                  refine L_skip rfl rfl ?_
                  refine L_skip rfl rfl ?_
                  refine L_skip rfl rfl ?_
                  refine L_skip rfl rfl ?_
                  refine L_skip rfl rfl ?_
                  refine L_y rfl (y_pick_f rfl rfl) rfl ?_
                  refine L_y rfl (y_pick_f rfl rfl) rfl ?_
                  refine L_nil ?_
                  refine C_cond_f rfl ?_
                  refine C_skip ?_
                  refine C_seq ?_
                  refine C_region ?_
                  refine L_y rfl (y_move rfl) rfl ?_
                  refine L_op rfl (op_call rfl rfl (fun a w => Try.call21 a w) rfl ?_)
                  refine (FnS.sub (hsub_pick [0, 0] rfl) (flush_r hS1)).mono ?_
                  rintro _ _ ⟨e4, D2, A2, m2, hS2, rfl⟩
                  rw [show (((r.write (k : Int) (sec3 x y 9))).x.o = false) from (show OneS (r.write (k : Int) (sec3 x y 9)) (want.set k (sec3 x y 9)) goodP 6 from ⟨(hO.one.write hk6).1, set_ok hO.wok (sec3_len _ _ _)⟩).one.out, Bool.false_and, if_neg (by decide)] at e4
                  obtain rfl := e4
                  refine ⟨_, rfl, ?_⟩
                  refine L_y rfl (y_nei rfl rfl) rfl ?_
                  refine L_nil ?_
                  refine C_cond_f rfl ?_
                  refine C_skip ?_
                  refine C_region ?_
                  refine L_y rfl (y_move rfl) rfl ?_
                  refine L_y rfl (y_add rfl rfl (wi64 (by omega) (by omega))) rfl ?_
                  refine L_y rfl (y_assign rfl) rfl ?_
                  refine L_nil ?_
                  exact ⟨(_, _, _, _, (want.set k (sec3 x y 9)), i + 1), ⟨hS2, ⟨(hO.one.write hk6).1, set_ok hO.wok (sec3_len _ _ _)⟩, by simp only; omega⟩, by simp only; omega, ⟨rfl, rfl, rfl, rfl, rfl, trivial⟩, ((hsub (.cons_cons _ (.cons_cons _ (.cons_cons _ (.cons_cons _ (.cons _ (.cons _ (.refl _)))))))).trans (hsub_pick [0, 0, 2, 2] rfl))⟩
              · exact absurd hc3 (of_decide_eq_false hg19_4)
            · skip
              refine C_skip ?_
              refine C_seq ?_
              refine C_region ?_
              refine L_y rfl (y_move rfl) rfl ?_
              refine L_op rfl (op_call rfl rfl (fun a w => Try.call21 a w) rfl ?_)
              refine (FnS.sub (hsub_pick [2, 2] rfl) (flush_r hS)).mono ?_
              rintro _ _ ⟨e4, D3, A3, m3, hS3, rfl⟩
              rw [show ((r).x.o = false) from (show OneS r want goodP 6 from hO).one.out, Bool.false_and, if_neg (by decide)] at e4
              obtain rfl := e4
              refine ⟨_, rfl, ?_⟩
              refine L_y rfl (y_nei rfl rfl) rfl ?_
              refine L_nil ?_
              refine C_cond_f rfl ?_
              refine C_skip ?_
              refine C_region ?_
              refine L_y rfl (y_move rfl) rfl ?_
              refine L_y rfl (y_add rfl rfl (wi64 (by omega) (by omega))) rfl ?_
              refine L_y rfl (y_assign rfl) rfl ?_
              refine L_nil ?_
              exact ⟨(_, _, _, _, want, i + 1), ⟨hS3, hO, by simp only; omega⟩, by simp only; omega, ⟨rfl, rfl, rfl, rfl, rfl, trivial⟩, ((hsub (.cons_cons _ (.cons_cons _ (.cons_cons _ (.cons_cons _ (.cons _ (.cons _ (.refl _)))))))).trans (hsub_pick [0, 0, 2, 2] rfl))⟩
          · skip
            refine L_skip rfl rfl ?_
            refine L_skip rfl rfl ?_
            refine L_skip rfl rfl ?_
            refine L_skip rfl rfl ?_
            refine L_y rfl (y_pick_f rfl rfl) rfl ?_
            refine L_nil ?_
            refine C_cond_f rfl ?_
            refine C_skip ?_
            refine C_seq ?_
            refine C_region ?_
            refine L_y rfl (y_move rfl) rfl ?_
            refine L_op rfl (op_call rfl rfl (fun a w => Try.call21 a w) rfl ?_)
            refine (FnS.sub (hsub_pick [2, 2] rfl) (flush_r hS)).mono ?_
            rintro _ _ ⟨e4, D4, A4, m4, hS4, rfl⟩
            rw [show ((r).x.o = false) from (show OneS r want goodP 6 from hO).one.out, Bool.false_and, if_neg (by decide)] at e4
            obtain rfl := e4
            refine ⟨_, rfl, ?_⟩
            refine L_y rfl (y_nei rfl rfl) rfl ?_
            refine L_nil ?_
            refine C_cond_f rfl ?_
            refine C_skip ?_
            refine C_region ?_
            refine L_y rfl (y_move rfl) rfl ?_
            refine L_y rfl (y_add rfl rfl (wi64 (by omega) (by omega))) rfl ?_
            refine L_y rfl (y_assign rfl) rfl ?_
            refine L_nil ?_
            exact ⟨(_, _, _, _, want, i + 1), ⟨hS4, hO, by simp only; omega⟩, by simp only; omega, ⟨rfl, rfl, rfl, rfl, rfl, trivial⟩, ((hsub (.cons_cons _ (.cons_cons _ (.cons_cons _ (.cons_cons _ (.cons _ (.cons _ (.refl _)))))))).trans (hsub_pick [0, 0, 2, 2] rfl))⟩
        · replace hc3 := of_decide_eq_false hc3
          skip
          refine C_region ?_
          refine L_y rfl (y_eqi rfl rfl) rfl ?_
          refine L_y rfl (y_assign rfl) rfl ?_
          refine L_nil ?_
          refine C_cond rfl (fun hc4 => ?_) (fun hc4 => ?_)
          · replace hc4 := of_decide_eq_true hc4
            refine C_seq ?_
            refine C_region ?_
            refine L_y rfl (y_move rfl) rfl ?_
            refine L_y rfl (y_move rfl) rfl ?_
            refine L_case 55 rfl (fun hg17_2 => ?_) (fun hg17_2 => ?_)
            · have hn6 : n < 6 := of_decide_eq_true hg17_2
              refine L_y rfl (y_fieldAddr rfl fl_54_1) rfl ?_
              refine L_y rfl (y_load rfl ag_3 (sees 1 0 rfl) rfl) rfl ?_
              refine L_y rfl (y_loadA rfl ag_32 sz_32 (sees 0 0 rfl) (by rw [bs_length, sec3_len _ _ _]; decide) (bs_whole0 _ (sec3_len _ _ _))) rfl ?_
              refine L_op rfl (op_call rfl rfl (fun a w => Try.call18 a w) rfl ?_)
              refine (good09_s n (sec3 x y 9) (sec3_len _ _ _)).mono ?_
              rintro _ _ ⟨e4, e⟩
              obtain rfl := e.symm
              clear e
              obtain rfl := e4
              refine ⟨_, rfl, ?_⟩
              refine L_y rfl (y_pick_t rfl rfl) rfl ?_
              refine L_nil ?_
              refine C_cond rfl (fun hc5 => ?_) (fun hc5 => ?_)
              · skip
                refine C_seq ?_
                obtain ⟨k, rfl⟩ : ∃ k : Nat, n = k := ⟨n.toNat, by omega⟩
                have hk6 : k < 6 := by omega
                refine C_region ?_
                refine L_y rfl (y_fieldAddr rfl fl_54_1) rfl ?_
                refine L_y rfl (y_load rfl ag_3 (sees 1 0 rfl) rfl) rfl ?_
                refine L_y rfl (y_loadA rfl ag_32 sz_32 (sees 0 0 rfl) (by rw [bs_length, sec3_len _ _ _]; decide) (bs_whole0 _ (sec3_len _ _ _))) rfl ?_
                refine L_y rfl (y_indexA rfl rfl Try.underlying52 sz_32 (by omega) (by omega) (show _ = k * 128 from by simp)) rfl ?_
                refine L_op rfl (op_store 5 0 rfl rfl rfl sz_32 (by rw [bs_length, sec3_len]) rfl (bs_one _) (by rw [bs_length, flat_len hO.wok, hO.one.wlen]; omega) ?_)
                rw [flat_spl hO.wok (by rw [hO.one.wlen]; omega) (sec3_len _ _ _)]
                refine L_nil ?_
                refine C_seq ?_
                refine C_region ?_
                refine L_y rfl (y_fieldAddr rfl fl_54_0) rfl ?_
                refine L_y rfl (y_load rfl ag_3 (sees 1 0 rfl) rfl) rfl ?_
                refine L_y rfl (y_eqi rfl rfl) rfl ?_
                refine L_y rfl (y_move rfl) rfl ?_
                refine L_case 68 rfl (fun hg19_4 => ?_) (fun hg19_4 => ?_)
                · exact absurd (of_decide_eq_true hg19_4) hc3
                · skip
                  refine L_skip rfl rfl ?_
                  refine L_skip rfl rfl ?_
                  refine L_skip rfl rfl ?_
                  refine L_skip rfl rfl ?_
                  refine L_skip rfl rfl ?_
                  refine L_skip rfl rfl ?_
                  refine L_y rfl (y_pick_f rfl rfl) rfl ?_
                  refine L_y rfl (y_move rfl) rfl ?_
                  refine L_y rfl (y_fieldAddr rfl fl_54_0) rfl ?_
                  refine L_y rfl (y_load rfl ag_3 (sees 1 0 rfl) rfl) rfl ?_
                  refine L_y rfl (y_eqi rfl rfl) rfl ?_
                  refine L_y rfl (y_move rfl) rfl ?_
                  refine L_case 80 rfl (fun hg19_16 => ?_) (fun hg19_16 => ?_)
                  · skip
                    refine L_y rfl (y_move rfl) rfl ?_
                    refine L_y rfl (y_fieldAddr rfl fl_54_1) rfl ?_
                    refine L_y rfl (y_load rfl ag_3 (sees 1 0 rfl) rfl) rfl ?_
                    refine L_y rfl (y_loadA rfl ag_32 sz_32 (sees 0 0 rfl) (by rw [bs_length, sec3_len _ _ _]; decide) (bs_whole0 _ (sec3_len _ _ _))) rfl ?_
                    refine L_op rfl (op_call rfl rfl (fun a w => Try.call31 a w) rfl ?_)
                    refine (FnS.sub (hsub_pick [2, 2] rfl) (choose_r hS (k : Int) (sec3 x y 9) (sec3_len _ _ _) (by omega) (by omega))).mono ?_
                    rintro _ _ ⟨e4, D5, A5, m5, hS5, rfl⟩
                    rw [(hO.one.write (s := (sec3 x y 9)) hk6).2] at e4
                    obtain rfl := e4
                    refine ⟨_, rfl, ?_⟩
                    refine L_y rfl (y_nei rfl rfl) rfl ?_
                    refine L_y rfl (y_pick_t rfl rfl) rfl ?_
                    refine L_y rfl (y_pick_f rfl rfl) rfl ?_
                    refine L_nil ?_
                    refine C_cond_f rfl ?_
                    refine C_skip ?_
                    refine C_seq ?_
                    refine C_region ?_
                    refine L_y rfl (y_move rfl) rfl ?_
                    refine L_op rfl (op_call rfl rfl (fun a w => Try.call21 a w) rfl ?_)
                    refine (FnS.sub (hsub_pick [0, 0] rfl) (flush_r hS5)).mono ?_
                    rintro _ _ ⟨e4, D6, A6, m6, hS6, rfl⟩
                    rw [show (((r.write (k : Int) (sec3 x y 9))).x.o = false) from (show OneS (r.write (k : Int) (sec3 x y 9)) (want.set k (sec3 x y 9)) goodP 6 from ⟨(hO.one.write hk6).1, set_ok hO.wok (sec3_len _ _ _)⟩).one.out, Bool.false_and, if_neg (by decide)] at e4
                    obtain rfl := e4
                    refine ⟨_, rfl, ?_⟩
                    refine L_y rfl (y_nei rfl rfl) rfl ?_
                    refine L_nil ?_
                    refine C_cond_f rfl ?_
                    refine C_skip ?_
                    refine C_region ?_
                    refine L_y rfl (y_move rfl) rfl ?_
                    refine L_y rfl (y_add rfl rfl (wi64 (by omega) (by omega))) rfl ?_
                    refine L_y rfl (y_assign rfl) rfl ?_
                    refine L_nil ?_
                    exact ⟨(_, _, _, _, (want.set k (sec3 x y 9)), i + 1), ⟨hS6, ⟨(hO.one.write hk6).1, set_ok hO.wok (sec3_len _ _ _)⟩, by simp only; omega⟩, by simp only; omega, ⟨rfl, rfl, rfl, rfl, rfl, trivial⟩, ((hsub (.cons_cons _ (.cons_cons _ (.cons_cons _ (.cons_cons _ (.cons _ (.cons _ (.refl _)))))))).trans (hsub_pick [0, 0, 2, 2] rfl))⟩
                  · exact absurd hc4 (of_decide_eq_false hg19_16)
              · skip
                refine C_skip ?_
                refine C_seq ?_
                refine C_region ?_
                refine L_y rfl (y_move rfl) rfl ?_
                refine L_op rfl (op_call rfl rfl (fun a w => Try.call21 a w) rfl ?_)
                refine (FnS.sub (hsub_pick [2, 2] rfl) (flush_r hS)).mono ?_
                rintro _ _ ⟨e4, D7, A7, m7, hS7, rfl⟩
                rw [show ((r).x.o = false) from (show OneS r want goodP 6 from hO).one.out, Bool.false_and, if_neg (by decide)] at e4
                obtain rfl := e4
                refine ⟨_, rfl, ?_⟩
                refine L_y rfl (y_nei rfl rfl) rfl ?_
                refine L_nil ?_
                refine C_cond_f rfl ?_
                refine C_skip ?_
                refine C_region ?_
                refine L_y rfl (y_move rfl) rfl ?_
                refine L_y rfl (y_add rfl rfl (wi64 (by omega) (by omega))) rfl ?_
                refine L_y rfl (y_assign rfl) rfl ?_
                refine L_nil ?_
                exact ⟨(_, _, _, _, want, i + 1), ⟨hS7, hO, by simp only; omega⟩, by simp only; omega, ⟨rfl, rfl, rfl, rfl, rfl, trivial⟩, ((hsub (.cons_cons _ (.cons_cons _ (.cons_cons _ (.cons_cons _ (.cons _ (.cons _ (.refl _)))))))).trans (hsub_pick [0, 0, 2, 2] rfl))⟩
            · skip
              refine L_skip rfl rfl ?_
              refine L_skip rfl rfl ?_
              refine L_skip rfl rfl ?_
              refine L_skip rfl rfl ?_
              refine L_y rfl (y_pick_f rfl rfl) rfl ?_
              refine L_nil ?_
              refine C_cond_f rfl ?_
              refine C_skip ?_
              refine C_seq ?_
              refine C_region ?_
              refine L_y rfl (y_move rfl) rfl ?_
              refine L_op rfl (op_call rfl rfl (fun a w => Try.call21 a w) rfl ?_)
              refine (FnS.sub (hsub_pick [2, 2] rfl) (flush_r hS)).mono ?_
              rintro _ _ ⟨e4, D8, A8, m8, hS8, rfl⟩
              rw [show ((r).x.o = false) from (show OneS r want goodP 6 from hO).one.out, Bool.false_and, if_neg (by decide)] at e4
              obtain rfl := e4
              refine ⟨_, rfl, ?_⟩
              refine L_y rfl (y_nei rfl rfl) rfl ?_
              refine L_nil ?_
              refine C_cond_f rfl ?_
              refine C_skip ?_
              refine C_region ?_
              refine L_y rfl (y_move rfl) rfl ?_
              refine L_y rfl (y_add rfl rfl (wi64 (by omega) (by omega))) rfl ?_
              refine L_y rfl (y_assign rfl) rfl ?_
              refine L_nil ?_
              exact ⟨(_, _, _, _, want, i + 1), ⟨hS8, hO, by simp only; omega⟩, by simp only; omega, ⟨rfl, rfl, rfl, rfl, rfl, trivial⟩, ((hsub (.cons_cons _ (.cons_cons _ (.cons_cons _ (.cons_cons _ (.cons _ (.cons _ (.refl _)))))))).trans (hsub_pick [0, 0, 2, 2] rfl))⟩
          · replace hc4 := of_decide_eq_false hc4
            refine C_seq ?_
            refine C_region ?_
            refine L_y rfl (y_eqi rfl rfl) rfl ?_
            refine L_y rfl (y_assign rfl) rfl ?_
            refine L_nil ?_
            refine C_cond rfl (fun hc8 => ?_) (fun hc8 => ?_)
            · replace hc8 := of_decide_eq_true hc8
              refine C_region ?_
              refine L_y rfl (y_move rfl) rfl ?_
              refine L_op rfl (op_call rfl rfl (fun a w => Try.call32 a w) rfl ?_)
              refine (FnS.sub (hsub_pick [2, 2] rfl) (sync_r hS good_at (by decide) (by decide) (by decide))).mono ?_
              rintro _ _ ⟨e4, D9, A9, m9, hS9, rfl⟩
              obtain rfl := e4
              refine ⟨_, rfl, ?_⟩
              refine L_nil ?_
              refine C_seq ?_
              refine C_region ?_
              refine L_y rfl (y_move rfl) rfl ?_
              refine L_op rfl (op_call rfl rfl (fun a w => Try.call21 a w) rfl ?_)
              refine (FnS.sub (hsub_pick [0, 0] rfl) (flush_r hS9)).mono ?_
              rintro _ _ ⟨e4, D10, A10, m10, hS10, rfl⟩
              rw [show (((r.sync goodP)).x.o = false) from (show OneS (r.sync goodP) want goodP 6 from ⟨hO.one.sync, hO.wok⟩).one.out, Bool.false_and, if_neg (by decide)] at e4
              obtain rfl := e4
              refine ⟨_, rfl, ?_⟩
              refine L_y rfl (y_nei rfl rfl) rfl ?_
              refine L_nil ?_
              refine C_cond_f rfl ?_
              refine C_skip ?_
              refine C_region ?_
              refine L_y rfl (y_move rfl) rfl ?_
              refine L_y rfl (y_add rfl rfl (wi64 (by omega) (by omega))) rfl ?_
              refine L_y rfl (y_assign rfl) rfl ?_
              refine L_nil ?_
              exact ⟨(_, _, _, _, want, i + 1), ⟨hS10, ⟨hO.one.sync, hO.wok⟩, by simp only; omega⟩, by simp only; omega, ⟨rfl, rfl, rfl, rfl, rfl, trivial⟩, ((hsub (.cons_cons _ (.cons_cons _ (.cons_cons _ (.cons_cons _ (.cons _ (.cons _ (.refl _)))))))).trans (hsub_pick [0, 0, 2, 2] rfl))⟩
            · replace hc8 := of_decide_eq_false hc8
              refine C_seq ?_
              refine C_region ?_
              refine L_y rfl (y_eqi rfl rfl) rfl ?_
              refine L_y rfl (y_assign rfl) rfl ?_
              refine L_nil ?_
              refine C_cond rfl (fun hc9 => ?_) (fun hc9 => ?_)
              · replace hc9 := of_decide_eq_true hc9
                refine C_region ?_
                refine L_y rfl (y_move rfl) rfl ?_
                refine L_y rfl (y_fieldAddr rfl fl_54_1) rfl ?_
                refine L_y rfl (y_load rfl ag_3 (sees 1 0 rfl) rfl) rfl ?_
                refine L_op rfl (op_call rfl rfl (fun a w => Try.call23 a w) rfl ?_)
                refine (FnS.sub (hsub_pick [2, 2] rfl) (heal_r hS good_at n (by decide) (by decide))).mono ?_
                rintro _ _ ⟨e4, D11, A11, m11, hS11, rfl⟩
                obtain rfl := e4
                refine ⟨_, rfl, ?_⟩
                refine L_nil ?_
                refine C_seq ?_
                refine C_region ?_
                refine L_y rfl (y_move rfl) rfl ?_
                refine L_op rfl (op_call rfl rfl (fun a w => Try.call21 a w) rfl ?_)
                refine (FnS.sub (hsub_pick [0, 0] rfl) (flush_r hS11)).mono ?_
                rintro _ _ ⟨e4, D12, A12, m12, hS12, rfl⟩
                rw [show (((r.heal goodP n)).x.o = false) from (show OneS (r.heal goodP n) want goodP 6 from ⟨hO.one.heal n, hO.wok⟩).one.out, Bool.false_and, if_neg (by decide)] at e4
                obtain rfl := e4
                refine ⟨_, rfl, ?_⟩
                refine L_y rfl (y_nei rfl rfl) rfl ?_
                refine L_nil ?_
                refine C_cond_f rfl ?_
                refine C_skip ?_
                refine C_region ?_
                refine L_y rfl (y_move rfl) rfl ?_
                refine L_y rfl (y_add rfl rfl (wi64 (by omega) (by omega))) rfl ?_
                refine L_y rfl (y_assign rfl) rfl ?_
                refine L_nil ?_
                exact ⟨(_, _, _, _, want, i + 1), ⟨hS12, ⟨hO.one.heal n, hO.wok⟩, by simp only; omega⟩, by simp only; omega, ⟨rfl, rfl, rfl, rfl, rfl, trivial⟩, ((hsub (.cons_cons _ (.cons_cons _ (.cons_cons _ (.cons_cons _ (.cons _ (.cons _ (.refl _)))))))).trans (hsub_pick [0, 0, 2, 2] rfl))⟩
              · replace hc9 := of_decide_eq_false hc9
                refine C_seq ?_
                refine C_region ?_
                refine L_y rfl (y_eqi rfl rfl) rfl ?_
                refine L_y rfl (y_assign rfl) rfl ?_
                refine L_nil ?_
                refine C_cond rfl (fun hc10 => ?_) (fun hc10 => ?_)
                · replace hc10 := of_decide_eq_true hc10
                  refine C_region ?_
                  refine L_y rfl (y_indexA rfl rfl Try.underlying51 sz_24 (by omega) (by omega) (show _ = 1 from rfl)) rfl ?_
                  refine L_y rfl (y_load rfl ag_24 (sees 4 0 rfl) rfl) rfl ?_
                  refine L_y rfl (y_fieldAddr rfl fl_54_4) rfl ?_
                  refine L_y rfl (y_load rfl ag_4 (sees 1 0 rfl) rfl) rfl ?_
                  refine L_op rfl (op_call rfl rfl (fun a w => Try.call33 a w) rfl ?_)
                  refine (FnS.sub (hsub_pick [3] rfl) (out_r hS true on)).mono ?_
                  rintro _ _ ⟨rfl, D13, A13, hS13, rfl⟩
                  refine ⟨_, rfl, ?_⟩
                  refine L_nil ?_
                  refine C_seq ?_
                  refine C_region ?_
                  refine L_y rfl (y_move rfl) rfl ?_
                  refine L_op rfl (op_call rfl rfl (fun a w => Try.call21 a w) rfl ?_)
                  refine (FnS.sub (hsub_pick [3, 0] rfl) (flush_r hS13)).mono ?_
                  rintro _ _ ⟨e4, D14, A14, m14, hS14, rfl⟩
                  rw [show (((r.outs true on)).x.o = false) from (show OneS (r.outs true on) want goodP 6 from ⟨hO.one.outs on, hO.wok⟩).one.out, Bool.false_and, if_neg (by decide)] at e4
                  obtain rfl := e4
                  refine ⟨_, rfl, ?_⟩
                  refine L_y rfl (y_nei rfl rfl) rfl ?_
                  refine L_nil ?_
                  refine C_cond_f rfl ?_
                  refine C_skip ?_
                  refine C_region ?_
                  refine L_y rfl (y_move rfl) rfl ?_
                  refine L_y rfl (y_add rfl rfl (wi64 (by omega) (by omega))) rfl ?_
                  refine L_y rfl (y_assign rfl) rfl ?_
                  refine L_nil ?_
                  exact ⟨(_, _, _, _, want, i + 1), ⟨hS14, ⟨hO.one.outs on, hO.wok⟩, by simp only; omega⟩, by simp only; omega, ⟨rfl, rfl, rfl, rfl, rfl, trivial⟩, ((hsub (.cons_cons _ (.cons_cons _ (.cons_cons _ (.cons_cons _ (.cons _ (.cons _ (.refl _)))))))).trans (hsub_pick [0, 0, 2, 2] rfl))⟩
                · replace hc10 := of_decide_eq_false hc10
                  refine C_seq ?_
                  refine C_region ?_
                  refine L_y rfl (y_eqi rfl rfl) rfl ?_
                  refine L_y rfl (y_assign rfl) rfl ?_
                  refine L_nil ?_
                  refine C_cond rfl (fun hc11 => ?_) (fun hc11 => ?_)
                  · replace hc11 := of_decide_eq_true hc11
                    refine C_region ?_
                    refine L_y rfl (y_indexA rfl rfl Try.underlying51 sz_24 (by omega) (by omega) (show _ = 1 from rfl)) rfl ?_
                    refine L_y rfl (y_load rfl ag_24 (sees 4 0 rfl) rfl) rfl ?_
                    refine L_y rfl (y_fieldAddr rfl fl_54_1) rfl ?_
                    refine L_y rfl (y_load rfl ag_3 (sees 1 0 rfl) rfl) rfl ?_
                    refine L_y rfl (y_fieldAddr rfl fl_54_2) rfl ?_
                    refine L_y rfl (y_load rfl ag_5 (sees 1 0 rfl) rfl) rfl ?_
                    refine L_y rfl (y_conv rfl us_5 Try.underlying3 (show _ = (x.toNat : Int) from wi64 (m := (x.toNat : Int)) (by omega) (by omega))) rfl ?_
                    refine L_y rfl (y_rem rfl rfl (by decide) (show _ = ((x.toNat % 128 : Nat) : Int) from rfl)) rfl ?_
                    refine L_y rfl (y_fieldAddr rfl fl_54_3) rfl ?_
                    refine L_y rfl (y_load rfl ag_5 (sees 1 0 rfl) rfl) rfl ?_
                    refine L_op rfl (op_call rfl rfl (fun a w => Try.call34 a w) rfl ?_)
                    refine (FnS.sub (hsub_pick [3] rfl) (rot_r hS true n (j := x.toNat % 128) (c := y) (by omega))).mono ?_
                    rintro _ _ ⟨rfl, D15, A15, hS15, rfl⟩
                    refine ⟨_, rfl, ?_⟩
                    refine L_nil ?_
                    refine C_seq ?_
                    refine C_region ?_
                    refine L_y rfl (y_move rfl) rfl ?_
                    refine L_op rfl (op_call rfl rfl (fun a w => Try.call21 a w) rfl ?_)
                    refine (FnS.sub (hsub_pick [3, 0] rfl) (flush_r hS15)).mono ?_
                    rintro _ _ ⟨e4, D16, A16, m16, hS16, rfl⟩
                    rw [show (((r.rot true n (x.toNat % 128) y)).x.o = false) from (show OneS (r.rot true n (x.toNat % 128) y) want goodP 6 from ⟨hO.one.rot n _ y, hO.wok⟩).one.out, Bool.false_and, if_neg (by decide)] at e4
                    obtain rfl := e4
                    refine ⟨_, rfl, ?_⟩
                    refine L_y rfl (y_nei rfl rfl) rfl ?_
                    refine L_nil ?_
                    refine C_cond_f rfl ?_
                    refine C_skip ?_
                    refine C_region ?_
                    refine L_y rfl (y_move rfl) rfl ?_
                    refine L_y rfl (y_add rfl rfl (wi64 (by omega) (by omega))) rfl ?_
                    refine L_y rfl (y_assign rfl) rfl ?_
                    refine L_nil ?_
                    exact ⟨(_, _, _, _, want, i + 1), ⟨hS16, ⟨hO.one.rot n _ y, hO.wok⟩, by simp only; omega⟩, by simp only; omega, ⟨rfl, rfl, rfl, rfl, rfl, trivial⟩, ((hsub (.cons_cons _ (.cons_cons _ (.cons_cons _ (.cons_cons _ (.cons _ (.cons _ (.refl _)))))))).trans (hsub_pick [0, 0, 2, 2] rfl))⟩
                  · replace hc11 := of_decide_eq_false hc11
                    refine C_skip ?_
                    refine C_seq ?_
                    refine C_region ?_
                    refine L_y rfl (y_move rfl) rfl ?_
                    refine L_op rfl (op_call rfl rfl (fun a w => Try.call21 a w) rfl ?_)
                    refine (FnS.sub (hsub_pick [2, 2] rfl) (flush_r hS)).mono ?_
                    rintro _ _ ⟨e4, D17, A17, m17, hS17, rfl⟩
                    rw [show ((r).x.o = false) from (show OneS r want goodP 6 from hO).one.out, Bool.false_and, if_neg (by decide)] at e4
                    obtain rfl := e4
                    refine ⟨_, rfl, ?_⟩
                    refine L_y rfl (y_nei rfl rfl) rfl ?_
                    refine L_nil ?_
                    refine C_cond_f rfl ?_
                    refine C_skip ?_
                    refine C_region ?_
                    refine L_y rfl (y_move rfl) rfl ?_
                    refine L_y rfl (y_add rfl rfl (wi64 (by omega) (by omega))) rfl ?_
                    refine L_y rfl (y_assign rfl) rfl ?_
                    refine L_nil ?_
                    exact ⟨(_, _, _, _, want, i + 1), ⟨hS17, hO, by simp only; omega⟩, by simp only; omega, ⟨rfl, rfl, rfl, rfl, rfl, trivial⟩, ((hsub (.cons_cons _ (.cons_cons _ (.cons_cons _ (.cons_cons _ (.cons _ (.cons _ (.refl _)))))))).trans (hsub_pick [0, 0, 2, 2] rfl))⟩
      · skip
        refine L_skip rfl rfl ?_
        refine L_skip rfl rfl ?_
        refine L_skip rfl rfl ?_
        refine L_y rfl (y_pick_f rfl rfl) rfl ?_
        refine L_y rfl (y_assign rfl) rfl ?_
        refine L_nil ?_
        refine C_seq ?_
        refine C_seq ?_
        refine C_region ?_
        refine L_y rfl (y_fieldAddr rfl fl_54_0) rfl ?_
        refine L_y rfl (y_load rfl ag_3 (sees 1 0 rfl) rfl) rfl ?_
        refine L_nil ?_
        refine C_block ?_
        refine C_seq ?_
        refine C_seq ?_
        refine C_region ?_
        refine L_y rfl (y_eqi rfl rfl) rfl ?_
        refine L_y rfl (y_assign rfl) rfl ?_
        refine L_nil ?_
        refine C_cond rfl (fun hc3 => ?_) (fun hc3 => ?_)
        · replace hc3 := of_decide_eq_true hc3
          refine C_skip ?_
          refine C_cond rfl (fun hc4 => ?_) (fun hc4 => absurd hc4 (by intro e; exact of_decide_eq_false e hc3))
          refine C_seq ?_
          refine C_region ?_
          refine L_y rfl (y_move rfl) rfl ?_
          refine L_y rfl (y_move rfl) rfl ?_
          refine L_skip rfl rfl ?_
          refine L_skip rfl rfl ?_
          refine L_skip rfl rfl ?_
          refine L_skip rfl rfl ?_
          refine L_y rfl (y_pick_f rfl rfl) rfl ?_
          refine L_nil ?_
          refine C_cond_f rfl ?_
          refine C_skip ?_
          refine C_seq ?_
          refine C_region ?_
          refine L_y rfl (y_move rfl) rfl ?_
          refine L_op rfl (op_call rfl rfl (fun a w => Try.call21 a w) rfl ?_)
          refine (FnS.sub (hsub_pick [2, 2] rfl) (flush_r hS)).mono ?_
          rintro _ _ ⟨e4, D18, A18, m18, hS18, rfl⟩
          rw [show ((r).x.o = false) from (show OneS r want goodP 6 from hO).one.out, Bool.false_and, if_neg (by decide)] at e4
          obtain rfl := e4
          refine ⟨_, rfl, ?_⟩
          refine L_y rfl (y_nei rfl rfl) rfl ?_
          refine L_nil ?_
          refine C_cond_f rfl ?_
          refine C_skip ?_
          refine C_region ?_
          refine L_y rfl (y_move rfl) rfl ?_
          refine L_y rfl (y_add rfl rfl (wi64 (by omega) (by omega))) rfl ?_
          refine L_y rfl (y_assign rfl) rfl ?_
          refine L_nil ?_
          exact ⟨(_, _, _, _, want, i + 1), ⟨hS18, hO, by simp only; omega⟩, by simp only; omega, ⟨rfl, rfl, rfl, rfl, rfl, trivial⟩, ((hsub (.cons_cons _ (.cons_cons _ (.cons_cons _ (.cons_cons _ (.cons _ (.cons _ (.refl _)))))))).trans (hsub_pick [0, 0, 2, 2] rfl))⟩
        · replace hc3 := of_decide_eq_false hc3
          skip
          refine C_region ?_
          refine L_y rfl (y_eqi rfl rfl) rfl ?_
          refine L_y rfl (y_assign rfl) rfl ?_
          refine L_nil ?_
          refine C_cond rfl (fun hc4 => ?_) (fun hc4 => ?_)
          · replace hc4 := of_decide_eq_true hc4
            refine C_seq ?_
            refine C_region ?_
            refine L_y rfl (y_move rfl) rfl ?_
            refine L_y rfl (y_move rfl) rfl ?_
            refine L_skip rfl rfl ?_
            refine L_skip rfl rfl ?_
            refine L_skip rfl rfl ?_
            refine L_skip rfl rfl ?_
            refine L_y rfl (y_pick_f rfl rfl) rfl ?_
            refine L_nil ?_
            refine C_cond_f rfl ?_
            refine C_skip ?_
            refine C_seq ?_
            refine C_region ?_
            refine L_y rfl (y_move rfl) rfl ?_
            refine L_op rfl (op_call rfl rfl (fun a w => Try.call21 a w) rfl ?_)
            refine (FnS.sub (hsub_pick [2, 2] rfl) (flush_r hS)).mono ?_
            rintro _ _ ⟨e4, D19, A19, m19, hS19, rfl⟩
            rw [show ((r).x.o = false) from (show OneS r want goodP 6 from hO).one.out, Bool.false_and, if_neg (by decide)] at e4
            obtain rfl := e4
            refine ⟨_, rfl, ?_⟩
            refine L_y rfl (y_nei rfl rfl) rfl ?_
            refine L_nil ?_
            refine C_cond_f rfl ?_
            refine C_skip ?_
            refine C_region ?_
            refine L_y rfl (y_move rfl) rfl ?_
            refine L_y rfl (y_add rfl rfl (wi64 (by omega) (by omega))) rfl ?_
            refine L_y rfl (y_assign rfl) rfl ?_
            refine L_nil ?_
            exact ⟨(_, _, _, _, want, i + 1), ⟨hS19, hO, by simp only; omega⟩, by simp only; omega, ⟨rfl, rfl, rfl, rfl, rfl, trivial⟩, ((hsub (.cons_cons _ (.cons_cons _ (.cons_cons _ (.cons_cons _ (.cons _ (.cons _ (.refl _)))))))).trans (hsub_pick [0, 0, 2, 2] rfl))⟩
          · replace hc4 := of_decide_eq_false hc4
            refine C_seq ?_
            refine C_region ?_
            refine L_y rfl (y_eqi rfl rfl) rfl ?_
            refine L_y rfl (y_assign rfl) rfl ?_
            refine L_nil ?_
            refine C_cond rfl (fun hc8 => ?_) (fun hc8 => ?_)
            · replace hc8 := of_decide_eq_true hc8
              refine C_region ?_
              refine L_y rfl (y_move rfl) rfl ?_
              refine L_op rfl (op_call rfl rfl (fun a w => Try.call32 a w) rfl ?_)
              refine (FnS.sub (hsub_pick [2, 2] rfl) (sync_r hS good_at (by decide) (by decide) (by decide))).mono ?_
              rintro _ _ ⟨e4, D20, A20, m20, hS20, rfl⟩
              obtain rfl := e4
              refine ⟨_, rfl, ?_⟩
              refine L_nil ?_
              refine C_seq ?_
              refine C_region ?_
              refine L_y rfl (y_move rfl) rfl ?_
              refine L_op rfl (op_call rfl rfl (fun a w => Try.call21 a w) rfl ?_)
              refine (FnS.sub (hsub_pick [0, 0] rfl) (flush_r hS20)).mono ?_
              rintro _ _ ⟨e4, D21, A21, m21, hS21, rfl⟩
              rw [show (((r.sync goodP)).x.o = false) from (show OneS (r.sync goodP) want goodP 6 from ⟨hO.one.sync, hO.wok⟩).one.out, Bool.false_and, if_neg (by decide)] at e4
              obtain rfl := e4
              refine ⟨_, rfl, ?_⟩
              refine L_y rfl (y_nei rfl rfl) rfl ?_
              refine L_nil ?_
              refine C_cond_f rfl ?_
              refine C_skip ?_
              refine C_region ?_
              refine L_y rfl (y_move rfl) rfl ?_
              refine L_y rfl (y_add rfl rfl (wi64 (by omega) (by omega))) rfl ?_
              refine L_y rfl (y_assign rfl) rfl ?_
              refine L_nil ?_
              exact ⟨(_, _, _, _, want, i + 1), ⟨hS21, ⟨hO.one.sync, hO.wok⟩, by simp only; omega⟩, by simp only; omega, ⟨rfl, rfl, rfl, rfl, rfl, trivial⟩, ((hsub (.cons_cons _ (.cons_cons _ (.cons_cons _ (.cons_cons _ (.cons _ (.cons _ (.refl _)))))))).trans (hsub_pick [0, 0, 2, 2] rfl))⟩
            · replace hc8 := of_decide_eq_false hc8
              refine C_seq ?_
              refine C_region ?_
              refine L_y rfl (y_eqi rfl rfl) rfl ?_
              refine L_y rfl (y_assign rfl) rfl ?_
              refine L_nil ?_
              refine C_cond rfl (fun hc9 => ?_) (fun hc9 => ?_)
              · replace hc9 := of_decide_eq_true hc9
                refine C_region ?_
                refine L_y rfl (y_move rfl) rfl ?_
                refine L_y rfl (y_fieldAddr rfl fl_54_1) rfl ?_
                refine L_y rfl (y_load rfl ag_3 (sees 1 0 rfl) rfl) rfl ?_
                refine L_op rfl (op_call rfl rfl (fun a w => Try.call23 a w) rfl ?_)
                refine (FnS.sub (hsub_pick [2, 2] rfl) (heal_r hS good_at n (by decide) (by decide))).mono ?_
                rintro _ _ ⟨e4, D22, A22, m22, hS22, rfl⟩
                obtain rfl := e4
                refine ⟨_, rfl, ?_⟩
                refine L_nil ?_
                refine C_seq ?_
                refine C_region ?_
                refine L_y rfl (y_move rfl) rfl ?_
                refine L_op rfl (op_call rfl rfl (fun a w => Try.call21 a w) rfl ?_)
                refine (FnS.sub (hsub_pick [0, 0] rfl) (flush_r hS22)).mono ?_
                rintro _ _ ⟨e4, D23, A23, m23, hS23, rfl⟩
                rw [show (((r.heal goodP n)).x.o = false) from (show OneS (r.heal goodP n) want goodP 6 from ⟨hO.one.heal n, hO.wok⟩).one.out, Bool.false_and, if_neg (by decide)] at e4
                obtain rfl := e4
                refine ⟨_, rfl, ?_⟩
                refine L_y rfl (y_nei rfl rfl) rfl ?_
                refine L_nil ?_
                refine C_cond_f rfl ?_
                refine C_skip ?_
                refine C_region ?_
                refine L_y rfl (y_move rfl) rfl ?_
                refine L_y rfl (y_add rfl rfl (wi64 (by omega) (by omega))) rfl ?_
                refine L_y rfl (y_assign rfl) rfl ?_
                refine L_nil ?_
                exact ⟨(_, _, _, _, want, i + 1), ⟨hS23, ⟨hO.one.heal n, hO.wok⟩, by simp only; omega⟩, by simp only; omega, ⟨rfl, rfl, rfl, rfl, rfl, trivial⟩, ((hsub (.cons_cons _ (.cons_cons _ (.cons_cons _ (.cons_cons _ (.cons _ (.cons _ (.refl _)))))))).trans (hsub_pick [0, 0, 2, 2] rfl))⟩
              · replace hc9 := of_decide_eq_false hc9
                refine C_seq ?_
                refine C_region ?_
                refine L_y rfl (y_eqi rfl rfl) rfl ?_
                refine L_y rfl (y_assign rfl) rfl ?_
                refine L_nil ?_
                refine C_cond rfl (fun hc10 => ?_) (fun hc10 => ?_)
                · replace hc10 := of_decide_eq_true hc10
                  refine C_region ?_
                  refine L_y rfl (y_indexA rfl rfl Try.underlying51 sz_24 (by omega) (by omega) (show _ = 1 from rfl)) rfl ?_
                  refine L_y rfl (y_load rfl ag_24 (sees 4 0 rfl) rfl) rfl ?_
                  refine L_y rfl (y_fieldAddr rfl fl_54_4) rfl ?_
                  refine L_y rfl (y_load rfl ag_4 (sees 1 0 rfl) rfl) rfl ?_
                  refine L_op rfl (op_call rfl rfl (fun a w => Try.call33 a w) rfl ?_)
                  refine (FnS.sub (hsub_pick [3] rfl) (out_r hS true on)).mono ?_
                  rintro _ _ ⟨rfl, D24, A24, hS24, rfl⟩
                  refine ⟨_, rfl, ?_⟩
                  refine L_nil ?_
                  refine C_seq ?_
                  refine C_region ?_
                  refine L_y rfl (y_move rfl) rfl ?_
                  refine L_op rfl (op_call rfl rfl (fun a w => Try.call21 a w) rfl ?_)
                  refine (FnS.sub (hsub_pick [3, 0] rfl) (flush_r hS24)).mono ?_
                  rintro _ _ ⟨e4, D25, A25, m25, hS25, rfl⟩
                  rw [show (((r.outs true on)).x.o = false) from (show OneS (r.outs true on) want goodP 6 from ⟨hO.one.outs on, hO.wok⟩).one.out, Bool.false_and, if_neg (by decide)] at e4
                  obtain rfl := e4
                  refine ⟨_, rfl, ?_⟩
                  refine L_y rfl (y_nei rfl rfl) rfl ?_
                  refine L_nil ?_
                  refine C_cond_f rfl ?_
                  refine C_skip ?_
                  refine C_region ?_
                  refine L_y rfl (y_move rfl) rfl ?_
                  refine L_y rfl (y_add rfl rfl (wi64 (by omega) (by omega))) rfl ?_
                  refine L_y rfl (y_assign rfl) rfl ?_
                  refine L_nil ?_
                  exact ⟨(_, _, _, _, want, i + 1), ⟨hS25, ⟨hO.one.outs on, hO.wok⟩, by simp only; omega⟩, by simp only; omega, ⟨rfl, rfl, rfl, rfl, rfl, trivial⟩, ((hsub (.cons_cons _ (.cons_cons _ (.cons_cons _ (.cons_cons _ (.cons _ (.cons _ (.refl _)))))))).trans (hsub_pick [0, 0, 2, 2] rfl))⟩
                · replace hc10 := of_decide_eq_false hc10
                  refine C_seq ?_
                  refine C_region ?_
                  refine L_y rfl (y_eqi rfl rfl) rfl ?_
                  refine L_y rfl (y_assign rfl) rfl ?_
                  refine L_nil ?_
                  refine C_cond rfl (fun hc11 => ?_) (fun hc11 => ?_)
                  · replace hc11 := of_decide_eq_true hc11
                    refine C_region ?_
                    refine L_y rfl (y_indexA rfl rfl Try.underlying51 sz_24 (by omega) (by omega) (show _ = 1 from rfl)) rfl ?_
                    refine L_y rfl (y_load rfl ag_24 (sees 4 0 rfl) rfl) rfl ?_
                    refine L_y rfl (y_fieldAddr rfl fl_54_1) rfl ?_
                    refine L_y rfl (y_load rfl ag_3 (sees 1 0 rfl) rfl) rfl ?_
                    refine L_y rfl (y_fieldAddr rfl fl_54_2) rfl ?_
                    refine L_y rfl (y_load rfl ag_5 (sees 1 0 rfl) rfl) rfl ?_
                    refine L_y rfl (y_conv rfl us_5 Try.underlying3 (show _ = (x.toNat : Int) from wi64 (m := (x.toNat : Int)) (by omega) (by omega))) rfl ?_
                    refine L_y rfl (y_rem rfl rfl (by decide) (show _ = ((x.toNat % 128 : Nat) : Int) from rfl)) rfl ?_
                    refine L_y rfl (y_fieldAddr rfl fl_54_3) rfl ?_
                    refine L_y rfl (y_load rfl ag_5 (sees 1 0 rfl) rfl) rfl ?_
                    refine L_op rfl (op_call rfl rfl (fun a w => Try.call34 a w) rfl ?_)
                    refine (FnS.sub (hsub_pick [3] rfl) (rot_r hS true n (j := x.toNat % 128) (c := y) (by omega))).mono ?_
                    rintro _ _ ⟨rfl, D26, A26, hS26, rfl⟩
                    refine ⟨_, rfl, ?_⟩
                    refine L_nil ?_
                    refine C_seq ?_
                    refine C_region ?_
                    refine L_y rfl (y_move rfl) rfl ?_
                    refine L_op rfl (op_call rfl rfl (fun a w => Try.call21 a w) rfl ?_)
                    refine (FnS.sub (hsub_pick [3, 0] rfl) (flush_r hS26)).mono ?_
                    rintro _ _ ⟨e4, D27, A27, m27, hS27, rfl⟩
                    rw [show (((r.rot true n (x.toNat % 128) y)).x.o = false) from (show OneS (r.rot true n (x.toNat % 128) y) want goodP 6 from ⟨hO.one.rot n _ y, hO.wok⟩).one.out, Bool.false_and, if_neg (by decide)] at e4
                    obtain rfl := e4
                    refine ⟨_, rfl, ?_⟩
                    refine L_y rfl (y_nei rfl rfl) rfl ?_
                    refine L_nil ?_
                    refine C_cond_f rfl ?_
                    refine C_skip ?_
                    refine C_region ?_
                    refine L_y rfl (y_move rfl) rfl ?_
                    refine L_y rfl (y_add rfl rfl (wi64 (by omega) (by omega))) rfl ?_
                    refine L_y rfl (y_assign rfl) rfl ?_
                    refine L_nil ?_
                    exact ⟨(_, _, _, _, want, i + 1), ⟨hS27, ⟨hO.one.rot n _ y, hO.wok⟩, by simp only; omega⟩, by simp only; omega, ⟨rfl, rfl, rfl, rfl, rfl, trivial⟩, ((hsub (.cons_cons _ (.cons_cons _ (.cons_cons _ (.cons_cons _ (.cons _ (.cons _ (.refl _)))))))).trans (hsub_pick [0, 0, 2, 2] rfl))⟩
                  · replace hc11 := of_decide_eq_false hc11
                    refine C_skip ?_
                    refine C_seq ?_
                    refine C_region ?_
                    refine L_y rfl (y_move rfl) rfl ?_
                    refine L_op rfl (op_call rfl rfl (fun a w => Try.call21 a w) rfl ?_)
                    refine (FnS.sub (hsub_pick [2, 2] rfl) (flush_r hS)).mono ?_
                    rintro _ _ ⟨e4, D28, A28, m28, hS28, rfl⟩
                    rw [show ((r).x.o = false) from (show OneS r want goodP 6 from hO).one.out, Bool.false_and, if_neg (by decide)] at e4
                    obtain rfl := e4
                    refine ⟨_, rfl, ?_⟩
                    refine L_y rfl (y_nei rfl rfl) rfl ?_
                    refine L_nil ?_
                    refine C_cond_f rfl ?_
                    refine C_skip ?_
                    refine C_region ?_
                    refine L_y rfl (y_move rfl) rfl ?_
                    refine L_y rfl (y_add rfl rfl (wi64 (by omega) (by omega))) rfl ?_
                    refine L_y rfl (y_assign rfl) rfl ?_
                    refine L_nil ?_
                    exact ⟨(_, _, _, _, want, i + 1), ⟨hS28, hO, by simp only; omega⟩, by simp only; omega, ⟨rfl, rfl, rfl, rfl, rfl, trivial⟩, ((hsub (.cons_cons _ (.cons_cons _ (.cons_cons _ (.cons_cons _ (.cons _ (.cons _ (.refl _)))))))).trans (hsub_pick [0, 0, 2, 2] rfl))⟩
    · replace hc2 := of_decide_eq_false hc2
      refine C_exit ?_
      refine C_seq ?_
      refine C_seq ?_
      refine C_region ?_
      refine L_y rfl (y_assign rfl) rfl ?_
      refine L_nil ?_
      refine C_block ?_
      refine C_loop (ι := Nat) (fun k => [(3, ptr B1), (4, ptr mb), (5, ptr wt), (10, .int .i64 (k : Int))]) (fun k => m.seg 110 :: D.seg dt :: [(B1, .cells [ptr d91.b, ptr by81].toArray 51)] :: [(wt, .cells (bs want.flatten).toArray 52)] :: H) (fun k => k ≤ 6) (fun k => 6 - k) 0 (Nat.zero_le _) ⟨rfl, rfl, rfl, rfl, trivial⟩ ((hsub (.cons_cons _ (.cons_cons _ (.cons_cons _ (.cons_cons _ (.refl _)))))).trans (hsub_pick [0, 0, 0, 0] rfl)) (fun k hk => ?_)
      skip
      refine C_seq ?_
      refine C_seq ?_
      refine C_region ?_
      refine L_y rfl (y_move rfl) rfl ?_
      refine L_y rfl (y_lss rfl rfl) rfl ?_
      refine L_nil ?_
      refine C_cond rfl (fun hc12 => ?_) (fun hc12 => ?_)
      · replace hc12 : k < 6 := by have := of_decide_eq_true hc12; omega
        have hk6 := hc12
        refine C_skip ?_
        refine C_seq ?_
        refine C_block ?_
        refine C_seq ?_
        refine C_region ?_
        refine L_y rfl (y_move rfl) rfl ?_
        refine L_y rfl (y_move rfl) rfl ?_
        refine L_op rfl (op_call rfl rfl (fun a w => Try.call22 a w) rfl ?_)
        refine (FnS.sub (hsub_pick [0, 0] rfl) (read_r hS good_at (k : Int))).mono ?_
        rintro _ _ ⟨e4, rfl⟩
        obtain rfl := e4
        refine ⟨_, rfl, ?_⟩
        refine L_y rfl (y_move rfl) rfl ?_
        refine L_y rfl (y_extract rfl rfl) rfl ?_
        refine L_y rfl (y_extract rfl rfl) rfl ?_
        refine L_op rfl (op_alloc zl_32 rfl (fun B5 => ?_))
        refine L_op rfl (op_storeA 0 0 rfl rfl rfl sz_32 (by rw [bs_length, Rm.readS_len hS.rel (k : Int)]) rfl (bs_one _) (by simp) ?_)
        refine L_y rfl (y_assign rfl) rfl ?_
        refine L_nil ?_
        refine C_seq ?_
        refine C_regionH0 (by kernel_rfl) ?_
        refine H_y 0 rfl (by kernel_rfl) (by kernel_rfl) (by kernel_rfl) (HSub.refl _) rfl (y_move rfl) rfl ?_
        refine H_y 1 rfl (by kernel_rfl) (by kernel_rfl) (by kernel_rfl) (HSub.refl _) rfl (y_move rfl) rfl ?_
        refine H_y 2 rfl (by kernel_rfl) (by kernel_rfl) (by kernel_rfl) (HSub.refl _) rfl (y_indexA rfl rfl Try.underlying52 sz_32 (by omega) (by omega) (show _ = 0 + k * 128 from by simp)) rfl ?_
        refine H_y 3 rfl (by kernel_rfl) (by kernel_rfl) (by kernel_rfl) (HSub.refl _) rfl (y_loadA rfl ag_32 sz_32 (sees 4 0 rfl) (by rw [bs_length, flat_len hO.wok, hO.one.wlen]; omega) (show ((bs want.flatten).drop (0 + k * 128)).take 128 = _ from sec_at (n := 0) hO.wok (by simp) (want_get hO.one.wlen hk6))) rfl ?_
        refine H_one 4 rfl (by kernel_rfl) rfl (op_call rfl rfl (fun a w => Try.call18 a w) rfl ?_)
        refine (good09_s (k : Int) (want.getD k []) (want_len hO.one.wlen hk6 hO.wok)).mono ?_
        rintro _ _ ⟨e4, e⟩
        obtain rfl := e.symm
        clear e
        obtain rfl := e4
        refine ⟨_, rfl, ?_⟩
        refine ⟨HSub.refl _, ?_⟩
        refine H_y 5 rfl (by kernel_rfl) (by kernel_rfl) (by kernel_rfl) (HSub.refl _) rfl (y_move rfl) rfl ?_
        refine H_case 137 rfl (fun hg35_6 => ?_) (fun hg35_6 => ?_)
        · skip
          refine H_y 6 rfl (by kernel_rfl) (by kernel_rfl) (by kernel_rfl) (HSub.refl _) rfl (y_move rfl) rfl ?_
          refine H_y 7 rfl (by kernel_rfl) (by kernel_rfl) (by kernel_rfl) (HSub.refl _) rfl (y_nei rfl rfl) rfl ?_
          refine H_y 8 rfl (by kernel_rfl) (by kernel_rfl) (by kernel_rfl) (HSub.refl _) rfl (y_move rfl) rfl ?_
          refine H_case 140 rfl (fun hg35_9 => ?_) (fun hg35_9 => ?_)
          · exact absurd hg35_9 (by rw [((hO.one.tells hk6).1 hg35_6).1]; decide)
          · skip
            refine H_y 9 rfl (by kernel_rfl) (by kernel_rfl) (by kernel_rfl) (HSub.refl _) rfl (y_loadA rfl ag_32 sz_32 (sees 0 0 rfl) (by rw [bs_length, (Rm.readS_len hS.rel (k : Int))]; decide) (bs_whole0 _ ((Rm.readS_len hS.rel (k : Int))))) rfl ?_
            refine H_y 10 rfl (by kernel_rfl) (by kernel_rfl) (by kernel_rfl) (HSub.refl _) rfl (y_move rfl) rfl ?_
            refine H_y 11 rfl (by kernel_rfl) (by kernel_rfl) (by kernel_rfl) (HSub.refl _) rfl (y_indexA rfl rfl Try.underlying52 sz_32 (by omega) (by omega) (show _ = 0 + k * 128 from by simp)) rfl ?_
            refine H_y 12 rfl (by kernel_rfl) (by kernel_rfl) (by kernel_rfl) (HSub.refl _) rfl (y_loadA rfl ag_32 sz_32 (sees 4 0 rfl) (by rw [bs_length, flat_len hO.wok, hO.one.wlen]; omega) (show ((bs want.flatten).drop (0 + k * 128)).take 128 = _ from sec_at (n := 0) hO.wok (by simp) (want_get hO.one.wlen hk6))) rfl ?_
            refine H_y 13 rfl (by kernel_rfl) (by kernel_rfl) (by kernel_rfl) (HSub.refl _) rfl (y_nea rfl rfl Try.underlying32 Try.underlying5 sz_5 eg_32 (Rm.readS_len hS.rel (k : Int)) (want_len hO.one.wlen hk6 hO.wok)) rfl ?_
            refine H_y 14 rfl (by kernel_rfl) (by kernel_rfl) (by kernel_rfl) (HSub.refl _) rfl (y_pick_f rfl rfl) rfl ?_
            refine H_y 15 rfl (by kernel_rfl) (by kernel_rfl) (by kernel_rfl) (HSub.refl _) rfl (y_pick_t rfl rfl) rfl ?_
            refine H_y 16 rfl (by kernel_rfl) (by kernel_rfl) (by kernel_rfl) (HSub.refl _) rfl (y_move rfl) rfl ?_
            refine H_case 148 rfl (fun hg35_17 => ?_) (fun hg35_17 => ?_)
            · exact absurd hg35_17 (by rw [((hO.one.tells hk6).1 hg35_6).2]; simp)
            · skip
              refine H_y 17 rfl (by kernel_rfl) (by kernel_rfl) (by kernel_rfl) (HSub.refl _) rfl (y_move rfl) rfl ?_
              refine H_y 18 rfl (by kernel_rfl) (by kernel_rfl) (by kernel_rfl) (HSub.refl _) rfl (y_move rfl) rfl ?_
              refine H_y 19 rfl (by kernel_rfl) (by kernel_rfl) (by kernel_rfl) (HSub.refl _) rfl (y_indexA rfl rfl Try.underlying52 sz_32 (by omega) (by omega) (show _ = 0 + k * 128 from by simp)) rfl ?_
              refine H_y 20 rfl (by kernel_rfl) (by kernel_rfl) (by kernel_rfl) (HSub.refl _) rfl (y_loadA rfl ag_32 sz_32 (sees 4 0 rfl) (by rw [bs_length, flat_len hO.wok, hO.one.wlen]; omega) (show ((bs want.flatten).drop (0 + k * 128)).take 128 = _ from sec_at (n := 0) hO.wok (by simp) (want_get hO.one.wlen hk6))) rfl ?_
              refine H_one 21 rfl (by kernel_rfl) rfl (op_call rfl rfl (fun a w => Try.call18 a w) rfl ?_)
              refine (good09_s (k : Int) (want.getD k []) (want_len hO.one.wlen hk6 hO.wok)).mono ?_
              rintro _ _ ⟨e4, e⟩
              obtain rfl := e.symm
              clear e
              rw [hg35_6] at e4
              obtain rfl := e4
              refine ⟨_, rfl, ?_⟩
              refine ⟨HSub.refl _, ?_⟩
              refine H_y 22 rfl (by kernel_rfl) (by kernel_rfl) (by kernel_rfl) (HSub.refl _) rfl (y_not rfl) rfl ?_
              refine H_y 23 rfl (by kernel_rfl) (by kernel_rfl) (by kernel_rfl) (HSub.refl _) rfl (y_move rfl) rfl ?_
              refine H_skip 24 rfl (by kernel_rfl) (by kernel_rfl) (by kernel_rfl) (HSub.refl _) rfl rfl ?_
              refine H_skip 25 rfl (by kernel_rfl) (by kernel_rfl) (by kernel_rfl) (HSub.refl _) rfl rfl ?_
              refine H_y 26 rfl (by kernel_rfl) (by kernel_rfl) (by kernel_rfl) (HSub.refl _) rfl (y_pick_f rfl rfl) rfl ?_
              refine H_y 27 rfl (by kernel_rfl) (by kernel_rfl) (by kernel_rfl) (HSub.refl _) rfl (y_move rfl) rfl ?_
              refine H_skip 28 rfl (by kernel_rfl) (by kernel_rfl) (by kernel_rfl) (HSub.refl _) rfl rfl ?_
              refine H_skip 29 rfl (by kernel_rfl) (by kernel_rfl) (by kernel_rfl) (HSub.refl _) rfl rfl ?_
              refine H_skip 30 rfl (by kernel_rfl) (by kernel_rfl) (by kernel_rfl) (HSub.refl _) rfl rfl ?_
              refine H_skip 31 rfl (by kernel_rfl) (by kernel_rfl) (by kernel_rfl) (HSub.refl _) rfl rfl ?_
              refine H_skip 32 rfl (by kernel_rfl) (by kernel_rfl) (by kernel_rfl) (HSub.refl _) rfl rfl ?_
              refine H_y 33 rfl (by kernel_rfl) (by kernel_rfl) (by kernel_rfl) (HSub.refl _) rfl (y_pick_f rfl rfl) rfl ?_
              refine H_y 34 rfl (by kernel_rfl) (by kernel_rfl) (by kernel_rfl) (HSub.refl _) rfl (y_pick_f rfl rfl) rfl ?_
              refine H_done (by kernel_rfl) ?_
              refine C_cond_f rfl ?_
              refine C_skip ?_
              refine C_region ?_
              refine L_y rfl (y_move rfl) rfl ?_
              refine L_y rfl (y_add rfl rfl (wi64 (by omega) (by omega))) rfl ?_
              refine L_y rfl (y_assign rfl) rfl ?_
              refine L_nil ?_
              exact ⟨k + 1, by omega, by omega, ⟨rfl, rfl, rfl, rfl, trivial⟩, ((hsub (.cons_cons _ (.cons_cons _ (.cons_cons _ (.cons_cons _ (.cons _ (.refl _))))))).trans (hsub_pick [1, 1, 1, 1] rfl))⟩
        · skip
          refine H_skip 6 rfl (by kernel_rfl) (by kernel_rfl) (by kernel_rfl) (HSub.refl _) rfl rfl ?_
          refine H_skip 7 rfl (by kernel_rfl) (by kernel_rfl) (by kernel_rfl) (HSub.refl _) rfl rfl ?_
          refine H_skip 8 rfl (by kernel_rfl) (by kernel_rfl) (by kernel_rfl) (HSub.refl _) rfl rfl ?_
          refine H_skip 9 rfl (by kernel_rfl) (by kernel_rfl) (by kernel_rfl) (HSub.refl _) rfl rfl ?_
          refine H_skip 10 rfl (by kernel_rfl) (by kernel_rfl) (by kernel_rfl) (HSub.refl _) rfl rfl ?_
          refine H_skip 11 rfl (by kernel_rfl) (by kernel_rfl) (by kernel_rfl) (HSub.refl _) rfl rfl ?_
          refine H_skip 12 rfl (by kernel_rfl) (by kernel_rfl) (by kernel_rfl) (HSub.refl _) rfl rfl ?_
          refine H_skip 13 rfl (by kernel_rfl) (by kernel_rfl) (by kernel_rfl) (HSub.refl _) rfl rfl ?_
          refine H_skip 14 rfl (by kernel_rfl) (by kernel_rfl) (by kernel_rfl) (HSub.refl _) rfl rfl ?_
          refine H_y 15 rfl (by kernel_rfl) (by kernel_rfl) (by kernel_rfl) (HSub.refl _) rfl (y_pick_f rfl rfl) rfl ?_
          refine H_y 16 rfl (by kernel_rfl) (by kernel_rfl) (by kernel_rfl) (HSub.refl _) rfl (y_move rfl) rfl ?_
          refine H_y 17 rfl (by kernel_rfl) (by kernel_rfl) (by kernel_rfl) (HSub.refl _) rfl (y_move rfl) rfl ?_
          refine H_y 18 rfl (by kernel_rfl) (by kernel_rfl) (by kernel_rfl) (HSub.refl _) rfl (y_move rfl) rfl ?_
          refine H_y 19 rfl (by kernel_rfl) (by kernel_rfl) (by kernel_rfl) (HSub.refl _) rfl (y_indexA rfl rfl Try.underlying52 sz_32 (by omega) (by omega) (show _ = 0 + k * 128 from by simp)) rfl ?_
          refine H_y 20 rfl (by kernel_rfl) (by kernel_rfl) (by kernel_rfl) (HSub.refl _) rfl (y_loadA rfl ag_32 sz_32 (sees 4 0 rfl) (by rw [bs_length, flat_len hO.wok, hO.one.wlen]; omega) (show ((bs want.flatten).drop (0 + k * 128)).take 128 = _ from sec_at (n := 0) hO.wok (by simp) (want_get hO.one.wlen hk6))) rfl ?_
          refine H_one 21 rfl (by kernel_rfl) rfl (op_call rfl rfl (fun a w => Try.call18 a w) rfl ?_)
          refine (good09_s (k : Int) (want.getD k []) (want_len hO.one.wlen hk6 hO.wok)).mono ?_
          rintro _ _ ⟨e4, e⟩
          obtain rfl := e.symm
          clear e
          rw [hg35_6] at e4
          obtain rfl := e4
          refine ⟨_, rfl, ?_⟩
          refine ⟨HSub.refl _, ?_⟩
          refine H_y 22 rfl (by kernel_rfl) (by kernel_rfl) (by kernel_rfl) (HSub.refl _) rfl (y_not rfl) rfl ?_
          refine H_y 23 rfl (by kernel_rfl) (by kernel_rfl) (by kernel_rfl) (HSub.refl _) rfl (y_move rfl) rfl ?_
          refine H_y 24 rfl (by kernel_rfl) (by kernel_rfl) (by kernel_rfl) (HSub.refl _) rfl (y_move rfl) rfl ?_
          refine H_y 25 rfl (by kernel_rfl) (by kernel_rfl) (by kernel_rfl) (HSub.refl _) rfl (y_eqi rfl rfl) rfl ?_
          refine H_y 26 rfl (by kernel_rfl) (by kernel_rfl) (by kernel_rfl) (HSub.refl _) rfl (y_pick_t rfl rfl) rfl ?_
          refine H_y 27 rfl (by kernel_rfl) (by kernel_rfl) (by kernel_rfl) (HSub.refl _) rfl (y_move rfl) rfl ?_
          refine H_case 159 rfl (fun hg35_28 => ?_) (fun hg35_28 => ?_)
          · skip
            refine H_y 28 rfl (by kernel_rfl) (by kernel_rfl) (by kernel_rfl) (HSub.refl _) rfl (y_loadA rfl ag_32 sz_32 (sees 0 0 rfl) (by rw [bs_length, (Rm.readS_len hS.rel (k : Int))]; decide) (bs_whole0 _ ((Rm.readS_len hS.rel (k : Int))))) rfl ?_
            refine H_y 29 rfl (by kernel_rfl) (by kernel_rfl) (by kernel_rfl) (HSub.refl _) rfl (y_move rfl) rfl ?_
            refine H_y 30 rfl (by kernel_rfl) (by kernel_rfl) (by kernel_rfl) (HSub.refl _) rfl (y_indexA rfl rfl Try.underlying52 sz_32 (by omega) (by omega) (show _ = 0 + k * 128 from by simp)) rfl ?_
            refine H_y 31 rfl (by kernel_rfl) (by kernel_rfl) (by kernel_rfl) (HSub.refl _) rfl (y_loadA rfl ag_32 sz_32 (sees 4 0 rfl) (by rw [bs_length, flat_len hO.wok, hO.one.wlen]; omega) (show ((bs want.flatten).drop (0 + k * 128)).take 128 = _ from sec_at (n := 0) hO.wok (by simp) (want_get hO.one.wlen hk6))) rfl ?_
            refine H_y 32 rfl (by kernel_rfl) (by kernel_rfl) (by kernel_rfl) (HSub.refl _) rfl (y_eqa rfl rfl Try.underlying32 Try.underlying5 sz_5 eg_32 (Rm.readS_len hS.rel (k : Int)) (want_len hO.one.wlen hk6 hO.wok)) rfl ?_
            refine H_y 33 rfl (by kernel_rfl) (by kernel_rfl) (by kernel_rfl) (HSub.refl _) rfl (y_pick_t rfl rfl) rfl ?_
            refine H_y 34 rfl (by kernel_rfl) (by kernel_rfl) (by kernel_rfl) (HSub.refl _) rfl (y_pick_f rfl rfl) rfl ?_
            refine H_done (by kernel_rfl) ?_
            refine C_cond rfl (fun hc13 => absurd hc13 (by simp only [decide_eq_true_eq]; exact (hO.one.tells hk6).2 hg35_6 (of_decide_eq_true hg35_28))) (fun hc13 => ?_)
            refine C_skip ?_
            refine C_region ?_
            refine L_y rfl (y_move rfl) rfl ?_
            refine L_y rfl (y_add rfl rfl (wi64 (by omega) (by omega))) rfl ?_
            refine L_y rfl (y_assign rfl) rfl ?_
            refine L_nil ?_
            exact ⟨k + 1, by omega, by omega, ⟨rfl, rfl, rfl, rfl, trivial⟩, ((hsub (.cons_cons _ (.cons_cons _ (.cons_cons _ (.cons_cons _ (.cons _ (.refl _))))))).trans (hsub_pick [1, 1, 1, 1] rfl))⟩
          · skip
            refine H_skip 28 rfl (by kernel_rfl) (by kernel_rfl) (by kernel_rfl) (HSub.refl _) rfl rfl ?_
            refine H_skip 29 rfl (by kernel_rfl) (by kernel_rfl) (by kernel_rfl) (HSub.refl _) rfl rfl ?_
            refine H_skip 30 rfl (by kernel_rfl) (by kernel_rfl) (by kernel_rfl) (HSub.refl _) rfl rfl ?_
            refine H_skip 31 rfl (by kernel_rfl) (by kernel_rfl) (by kernel_rfl) (HSub.refl _) rfl rfl ?_
            refine H_skip 32 rfl (by kernel_rfl) (by kernel_rfl) (by kernel_rfl) (HSub.refl _) rfl rfl ?_
            refine H_y 33 rfl (by kernel_rfl) (by kernel_rfl) (by kernel_rfl) (HSub.refl _) rfl (y_pick_f rfl rfl) rfl ?_
            refine H_y 34 rfl (by kernel_rfl) (by kernel_rfl) (by kernel_rfl) (HSub.refl _) rfl (y_pick_f rfl rfl) rfl ?_
            refine H_done (by kernel_rfl) ?_
            refine C_cond_f rfl ?_
            refine C_skip ?_
            refine C_region ?_
            refine L_y rfl (y_move rfl) rfl ?_
            refine L_y rfl (y_add rfl rfl (wi64 (by omega) (by omega))) rfl ?_
            refine L_y rfl (y_assign rfl) rfl ?_
            refine L_nil ?_
            exact ⟨k + 1, by omega, by omega, ⟨rfl, rfl, rfl, rfl, trivial⟩, ((hsub (.cons_cons _ (.cons_cons _ (.cons_cons _ (.cons_cons _ (.cons _ (.refl _))))))).trans (hsub_pick [1, 1, 1, 1] rfl))⟩
      · replace hc12 := of_decide_eq_false hc12
        refine C_exit ?_
        refine C_seq ?_
        refine C_region ?_
        refine L_y rfl (y_assign rfl) rfl ?_
        refine L_nil ?_
        refine C_ret ?_
        refine B_ret (rv_tmp rfl rv_nil) (HSub.refl _) ?_
        first | rfl | exact ret_bool (by simp)

end Go.Proofs.Ytjjiclgbdenkkaa

/- From a row's reading of a slice of bytes to what a walk asks (own work). -/
set_option linter.unusedVariables false
namespace Go.Sl
open Go.RowKit
theorem row_block {w : World} {x : Addr} {cap : Nat} {k : IntKind} {zs : List Int} (hlen : zs.length = cap) (hc : ∀ i, i < zs.length → w.cell? (x.add i) = some (.int k (zs.getD i 0))) (hp : 0 < cap) :
    ∃ (b off : Nat) (l : List Value) (T : TypeId) (fr : Nat × Nat), x = ⟨b, off, none⟩ ∧ w.heap[b]? = some (.cells l.toArray T fr) ∧ off + cap ≤ l.length ∧ (l.drop off).take cap = zs.map (Value.int k) := by
  obtain ⟨b, off, spot⟩ := x
  have h0 := hc 0 (by omega)
  rw [show (⟨b, off, spot⟩ : Addr).add 0 = ⟨b, off, spot⟩ from by simp [Addr.add]] at h0
  have hspot : spot = none := by
    unfold World.cell? at h0
    cases spot with
    | none => rfl
    | some s => split at h0 <;> simp at h0
  subst hspot
  cases hb : w.heap[b]? with
  | none => simp [World.cell?, hb] at h0
  | some o =>
    cases o with
    | cells c T fr =>
      have hcell : ∀ i, i < zs.length → c.toList[off + i]? = some (.int k (zs.getD i 0)) := fun i hi => by
        have h := hc i hi
        rw [addr_add] at h
        simpa [World.cell?, hb] using h
      have hl : off + cap ≤ c.toList.length := by
        have h := hcell (cap - 1) (by omega)
        have := (List.getElem?_eq_some_iff.1 h).1
        omega
      refine ⟨b, off, c.toList, T, fr, rfl, hb, hl, ?_⟩
      apply List.ext_getElem?
      intro i
      by_cases hi : i < cap
      · rw [List.getElem?_take_of_lt hi, List.getElem?_drop, hcell i (by omega)]
        simp [List.getD, List.getElem?_eq_getElem (show i < zs.length by omega)]
      · rw [List.getElem?_eq_none (by simp; omega), List.getElem?_eq_none (by simp; omega)]
    | _ => simp [World.cell?, hb] at h0
theorem u8s {zs : List Int} (h : ∀ n ∈ zs, (Lit.int .u8 n).wf = true) : zs.map (Value.int .u8) = bs (zs.map fun z => UInt8.ofNat z.toNat) := by
  simp only [bs, List.map_map]
  apply List.map_congr_left
  intro z hz
  have hb := bounds_u8 (h z hz)
  simp only [Function.comp]
  exact u8_of_int (by omega) (by omega)
/-- A slice of bytes that came in. -/
theorem row_bytes {w : World} {a : Option Addr} {len cap : Nat} {zs : List Int} (hl : 0 < len) (h : (a = none ∧ len = 0 ∧ cap = 0 ∧ zs = []) ∨
    ∃ x, a = some x ∧ len ≤ cap ∧ cap ≤ maxLen ∧ zs.length = cap ∧ (∀ i, i < zs.length → w.cell? (x.add i) = some (.int .u8 (zs.getD i 0))) ∧ ∀ n ∈ zs, (Lit.int .u8 n).wf = true) :
    ∃ (b off : Nat) (l : List Value) (T : TypeId) (fr : Nat × Nat) (u : List UInt8), a = some ⟨b, off, none⟩ ∧ w.heap[b]? = some (.cells l.toArray T fr) ∧ off + len ≤ l.length ∧ (l.drop off).take len = bs u ∧ u.length = len ∧ len ≤ cap := by
  rcases h with ⟨_, h, _⟩ | ⟨x, rfl, h1, h2, h3, h4, h5⟩
  · omega
  · obtain ⟨b, off, l, T, fr, rfl, hb, hle, ht⟩ := row_block h3 h4 (by omega)
    refine ⟨b, off, l, T, fr, (zs.map fun z => UInt8.ofNat z.toNat).take len, rfl, hb, by omega, ?_, by simp; omega, h1⟩
    rw [← bs_take, ← u8s h5, ← ht, List.take_take]
    congr 1
    omega
end Go.Sl

/- What a row tells of its arguments, for flat types (integers, bools, structs and arrays of these) and slices of them (own work). -/
set_option linter.unusedVariables false
set_option linter.unusedSimpArgs false
namespace Go.Sl
open Go.RowKit
inductive Sc where
  | int (k : IntKind)
  | bool
def Sc.fit : Sc → Value → Prop
  | .int k, v => ∃ n, v = .int k n ∧ (Lit.int k n).wf = true
  | .bool, v => ∃ b, v = .bool b
/-- A row of cells fits a row of scalars. -/
def Fits : List Sc → List Value → Prop
  | [], [] => True
  | s :: ss, v :: vs => s.fit v ∧ Fits ss vs
  | _, _ => False
theorem Fits.length : ∀ {ss : List Sc} {vs : List Value}, Fits ss vs → vs.length = ss.length
  | [], [], _ => rfl
  | _ :: _, _ :: _, h => by simp [Fits.length h.2]
  | [], _ :: _, h => h.elim
  | _ :: _, [], h => h.elim
theorem Fits.append : ∀ {ss tt : List Sc} {vs us : List Value}, Fits ss vs → Fits tt us → Fits (ss ++ tt) (vs ++ us)
  | [], _, [], _, _, h => h
  | _ :: _, _, _ :: _, _, h, k => ⟨h.1, Fits.append h.2 k⟩
  | [], _, _ :: _, _, h, _ => h.elim
  | _ :: _, _, [], _, h, _ => h.elim
theorem Fits.cons_iff {s : Sc} {ss : List Sc} {vs : List Value} : Fits (s :: ss) vs ↔ ∃ v us, vs = v :: us ∧ s.fit v ∧ Fits ss us := by
  cases vs with
  | nil => simp [Fits]
  | cons v us =>
    refine ⟨fun h => ⟨v, us, rfl, h⟩, fun ⟨v', us', e, h⟩ => ?_⟩
    obtain ⟨rfl, rfl⟩ := List.cons.inj e
    exact h
theorem Fits.nil_iff {vs : List Value} : Fits [] vs ↔ vs = [] := by cases vs <;> simp [Fits]
theorem Fits.split : ∀ {ss tt : List Sc} {vs : List Value}, Fits (ss ++ tt) vs → ∃ a b, vs = a ++ b ∧ Fits ss a ∧ Fits tt b
  | [], _, vs, h => ⟨[], vs, rfl, trivial, h⟩
  | s :: ss, tt, vs, h => by
    obtain ⟨v, us, rfl, h1, h2⟩ := Fits.cons_iff.1 h
    obtain ⟨a, b, rfl, h3, h4⟩ := Fits.split (ss := ss) h2
    exact ⟨v :: a, b, rfl, ⟨h1, h3⟩, h4⟩
/-- A row of bytes. -/
theorem Fits.bytes : ∀ {n : Nat} {vs : List Value}, Fits (List.replicate n (.int .u8)) vs → ∃ u : List UInt8, vs = bs u ∧ u.length = n
  | 0, vs, h => ⟨[], by rw [Fits.nil_iff.1 h]; rfl, rfl⟩
  | n + 1, vs, h => by
    rw [List.replicate_succ] at h
    obtain ⟨v, us, rfl, ⟨m, rfl, hm⟩, h2⟩ := Fits.cons_iff.1 h
    obtain ⟨u, rfl, rfl⟩ := Fits.bytes h2
    have hb := bounds_u8 hm
    refine ⟨UInt8.ofNat m.toNat :: u, ?_, rfl⟩
    rw [u8_of_int (by omega) (by omega)]; rfl
def flatF (P : Program) (g : TypeId → Option (List Sc)) : List Field → Nat → Option (List Sc)
  | [], _ => some []
  | f :: fs, off => if f.offset = off then (g f.type).bind fun l => if P.cellsOf f.type = l.length then (flatF P g fs (off + l.length)).map (l ++ ·) else none else none
def flatT (P : Program) : Nat → TypeId → Option (List Sc)
  | 0, _ => none
  | d + 1, t => match P.underlying t with
    | some (.int k) => some [.int k]
    | some .bool => some [.bool]
    | some (.struct fs) => (flatF P (flatT P d) fs.toList 0).bind fun l => if P.cellsOf t = l.length then some l else none
    | some (.array n e) => (flatT P d e).bind fun l => if P.cellsOf e = l.length ∧ P.cellsOf t = n * l.length then some (List.replicate n l).flatten else none
    | _ => none
theorem flatF_fits {P : Program} {g : TypeId → Option (List Sc)} {cs : List Value} : ∀ {fs : List Field} {off : Nat} {sh : List Sc}, flatF P g fs off = some sh →
    (∀ f ∈ fs, ∀ l, g f.type = some l → Fits l ((cs.drop f.offset).take (P.cellsOf f.type))) → Fits sh ((cs.drop off).take sh.length)
  | [], off, sh, h, _ => by
    simp only [flatF, Option.some.injEq] at h
    subst h; simp [Fits]
  | f :: fs, off, sh, h, hf => by
    unfold flatF at h
    split at h
    · rename_i ho
      cases hg : g f.type with
      | none => simp [hg] at h
      | some l =>
        rw [hg] at h; simp only [Option.bind_some] at h
        split at h
        · rename_i hc
          cases hr : flatF P g fs (off + l.length) with
          | none => simp [hr] at h
          | some l2 =>
            simp only [hr, Option.map_some, Option.some.injEq] at h
            subst h
            have h1 := hf f (by simp) l hg
            have h2 := flatF_fits hr (fun f' hf' => hf f' (by simp [hf']))
            rw [ho, hc] at h1
            have h3 := Fits.append h1 h2
            rw [List.length_append, List.take_add, List.drop_drop]
            exact h3
        · cases h
    · cases h
section
variable {H : Type} {enc : TypeId × Value → H} {P : Program} {w : World} {base : Nat} {spare : Nat → Bool} {held : Bool}
theorem arr_fits {l : List Sc} : ∀ {n : Nat} {cs : List Value}, cs.length = n * l.length → (∀ i, i < n → Fits l ((cs.drop (i * l.length)).take l.length)) → Fits (List.replicate n l).flatten cs
  | 0, cs, h, _ => by simp at h; subst h; simp [Fits]
  | n + 1, cs, h, hi => by
    rw [Nat.add_mul, Nat.one_mul] at h
    have h0 := hi 0 (by omega)
    rw [Nat.zero_mul, List.drop_zero] at h0
    have h1 := arr_fits (l := l) (n := n) (cs := cs.drop l.length) (by simp; omega) (fun i hi' => by
      have := hi (i + 1) (by omega)
      rw [List.drop_drop, show l.length + i * l.length = (i + 1) * l.length from by rw [Nat.add_mul, Nat.one_mul, Nat.add_comm]]
      exact this)
    have h2 := Fits.append h0 h1
    rw [List.take_append_drop] at h2
    rw [List.replicate_succ, List.flatten_cons]
    exact h2
theorem flat_trod : ∀ {d : Nat} {t : TypeId} {sh : List Sc}, flatT P d t = some sh → ∀ {fuel : Nat} {cs : List Value} {x : DataW H × List MemPlace}, DataW.trod enc P w base spare held fuel t cs = some x → Fits sh cs
  | 0, _, _, h, _, _, _, _ => by simp [flatT] at h
  | d + 1, t, sh, h, fuel, cs, x, hx => by
    unfold flatT at h
    split at h
    · rename_i k hu
      obtain ⟨n, rfl, _, hw⟩ := DataW.trod_int hu hx
      simp only [Option.some.injEq] at h; subst h
      exact ⟨⟨n, rfl, hw⟩, trivial⟩
    · rename_i hu
      obtain ⟨b, rfl, _⟩ := DataW.trod_bool hu hx
      simp only [Option.some.injEq] at h; subst h
      exact ⟨⟨b, rfl⟩, trivial⟩
    · rename_i fs hu
      obtain ⟨xs, n, _, _, hl, hlen, hf⟩ := DataW.trod_struct hu hx
      cases hF : flatF P (flatT P d) fs.toList 0 with
      | none => simp [hF] at h
      | some l =>
        simp only [hF, Option.bind_some] at h
        split at h
        · rename_i hc
          simp only [Option.some.injEq] at h; subst h
          have := flatF_fits (cs := cs) hF (fun f hfm l' hl' => by
            obtain ⟨i, hi, rfl⟩ := List.getElem_of_mem hfm
            have h1 := hf i _ (by rw [← Array.getElem?_toList]; exact List.getElem?_eq_getElem hi)
            have h2 : i < xs.length := by rw [hlen]; simpa using hi
            rw [List.getElem?_eq_getElem h2] at h1
            exact flat_trod hl' h1)
          rw [List.drop_zero, List.take_of_length_le (by omega)] at this
          exact this
        · cases h
    · rename_i n e hu
      obtain ⟨xs, m, _, _, hl, hlen, hf⟩ := DataW.trod_array hu hx
      cases hF : flatT P d e with
      | none => simp [hF] at h
      | some l =>
        simp only [hF, Option.bind_some] at h
        split at h
        · rename_i hc
          simp only [Option.some.injEq] at h; subst h
          refine arr_fits (by rw [hl, hc.2]) (fun i hi => ?_)
          have h1 := hf i hi
          have h2 : i < xs.length := by omega
          rw [List.getElem?_eq_getElem h2, hc.1] at h1
          exact flat_trod hF h1
        · cases h
    · cases h
/-- A flat struct or array as an argument. -/
theorem flat_agg {d : Nat} {t : TypeId} {sh : List Sc} {v : Value} {D : DataW H} {ps : List MemPlace} (h : flatT P d t = some sh) (hv : ∃ cs, v = .agg cs) (hT : DataW.Trod enc P w base spare held t v D ps) : ∃ cs, v = .agg cs.toArray ∧ Fits sh cs := by
  obtain ⟨cs, rfl⟩ := hv
  obtain ⟨fuel, hf⟩ := hT
  exact ⟨cs.toList, by simp, flat_trod h hf⟩
theorem okWide_agg {r : Reach} {b0 : Nat} {t : TypeId} {v : Value} (ht : isAggT P t = true) (h : Value.okWide P w r b0 t v) : ∃ cs, v = .agg cs := by
  unfold Value.okWide at h
  unfold isAggT at ht
  split at h
  · obtain ⟨cs, rfl, _⟩ := h; exact ⟨cs, rfl⟩
  · obtain ⟨cs, rfl, _⟩ := h; exact ⟨cs, rfl⟩
  · rename_i h1 h2
    cases hu : P.underlying t with
    | none => simp [hu] at ht
    | some dd =>
      cases dd with
      | struct fs => exact absurd hu (h1 fs)
      | array n e => exact absurd hu (h2 n e)
      | _ => simp [hu] at ht
/-- What is told of a slice that came in. -/
def InS (w : World) (sh : List Sc) (a : Option Addr) (len cap : Nat) : Prop :=
  (a = none ∧ len = 0 ∧ cap = 0) ∨ ∃ (x : Addr), a = some x ∧ len ≤ cap ∧ cap ≤ maxLen ∧
    (0 < len → ∃ (b off : Nat) (l : List Value) (T : TypeId) (fr : Nat × Nat), x = ⟨b, off, none⟩ ∧ w.heap[b]? = some (.cells l.toArray T fr) ∧ off + len * sh.length ≤ l.length ∧
      ∀ i, i < len → Fits sh ((l.drop (off + i * sh.length)).take sh.length))
theorem cell_block {w : World} {b off : Nat} {spot : Option Nat} {v : Value} (h : w.cell? ⟨b, off, spot⟩ = some v) : spot = none ∧ ∃ (l : List Value) (T : TypeId) (fr : Nat × Nat), w.heap[b]? = some (.cells l.toArray T fr) := by
  have hs : spot = none := by
    unfold World.cell? at h
    cases spot with
    | none => rfl
    | some s => split at h <;> simp at h
  subst hs
  refine ⟨rfl, ?_⟩
  cases hb : w.heap[b]? with
  | none => simp [World.cell?, hb] at h
  | some o =>
    cases o with
    | cells c T fr => exact ⟨c.toList, T, fr, by simp⟩
    | _ => simp [World.cell?, hb] at h
theorem flat_slice {d : Nat} {t e : TypeId} {sh : List Sc} {a : Option Addr} {len cap : Nat} {D : DataW H} {ps : List MemPlace} (ht : P.underlying t = some (.slice e)) (h : flatT P d e = some sh) (hc : P.cellsOf e = sh.length) (hp : 0 < sh.length)
    (hT : DataW.Trod enc P w base (fun _ => true) held t (.slice a len cap) D ps) : InS w sh a len cap := by
  obtain ⟨fuel, hf⟩ := hT
  rcases Go.Deep.open_slice ht hf with ⟨hcs, _⟩ | ⟨x, len', cap', m, n, DD, Pl, hcs, _, hl, hm, hmm, _, hx⟩
  · simp [Value.cells] at hcs
    exact .inl hcs
  · simp [Value.cells] at hcs
    obtain ⟨rfl, rfl, rfl⟩ := hcs
    refine .inr ⟨x, rfl, hl, hm, fun hpos => ?_⟩
    simp only [if_true] at hmm
    subst hmm
    rw [hc] at hx
    obtain ⟨b, off, spot⟩ := x
    obtain ⟨cs1, f1, f2⟩ := hx 0 (by omega)
    obtain ⟨_, f3, f4⟩ := World.cells?_some f1
    have f5 := f4 0 hp
    rw [List.getElem?_eq_getElem (by omega), show (Addr.add (Addr.add ⟨b, off, spot⟩ (0 * sh.length)) 0) = ⟨b, off, spot⟩ from by simp [Addr.add]] at f5
    obtain ⟨rfl, l, T, fr, hb⟩ := cell_block f5
    have hcell : ∀ i, i < len → ∃ cs', cs'.length = sh.length ∧ Fits sh cs' ∧ ∀ j, j < sh.length → w.cell? ⟨b, off + (i * sh.length + j), none⟩ = cs'[j]? := fun i hi => by
      obtain ⟨cs', h1, h2⟩ := hx i (by omega)
      obtain ⟨_, h3, h4⟩ := World.cells?_some h1
      exact ⟨cs', h3, flat_trod h h2, fun j hj => by have := h4 j hj; rw [addr_add, addr_add] at this; simpa [Nat.add_assoc] using this⟩
    have hget : ∀ i, i < len → ∀ j, j < sh.length → ∃ v, l[off + (i * sh.length + j)]? = some v ∧ w.cell? ⟨b, off + (i * sh.length + j), none⟩ = some v := fun i hi j hj => by
      obtain ⟨cs', h1, h2, h3⟩ := hcell i hi
      have h4 := h3 j hj
      rw [List.getElem?_eq_getElem (by omega)] at h4
      refine ⟨_, ?_, h4⟩
      simpa [World.cell?, hb] using h4
    have hle : off + len * sh.length ≤ l.length := by
      obtain ⟨v, h1, _⟩ := hget (len - 1) (by omega) (sh.length - 1) (by omega)
      have h2 := (List.getElem?_eq_some_iff.1 h1).1
      have h3 : (len - 1) * sh.length + sh.length = len * sh.length := by
        rw [← Nat.succ_mul]; congr 1; omega
      omega
    refine ⟨b, off, l, T, fr, rfl, hb, hle, fun i hi => ?_⟩
    obtain ⟨cs', h1, h2, h3⟩ := hcell i hi
    have : (l.drop (off + i * sh.length)).take sh.length = cs' := by
      apply List.ext_getElem?
      intro j
      by_cases hj : j < sh.length
      · rw [List.getElem?_take_of_lt hj, List.getElem?_drop, ← h3 j hj]
        obtain ⟨v, k1, k2⟩ := hget i hi j hj
        rw [k2, Nat.add_assoc, k1]
      · have hc : i * sh.length + sh.length ≤ len * sh.length := by
          rw [← Nat.succ_mul]; exact Nat.mul_le_mul_right _ hi
        rw [List.getElem?_eq_none (by simp; omega), List.getElem?_eq_none (by omega)]
    rw [this]; exact h2
/-- The same, told as one row of elements. -/
theorem inS_rows {w : World} {sh : List Sc} {α : Type} {f : α → List Value} (hf : ∀ cs, Fits sh cs → ∃ x, cs = f x) : ∀ {len : Nat} {l : List Value} {off : Nat}, off + len * sh.length ≤ l.length →
    (∀ i, i < len → Fits sh ((l.drop (off + i * sh.length)).take sh.length)) → ∃ xs : List α, xs.length = len ∧ (l.drop off).take (len * sh.length) = (xs.map f).flatten
  | 0, l, off, _, _ => ⟨[], rfl, by simp⟩
  | len + 1, l, off, hl, h => by
    have h0 := h 0 (by omega)
    rw [Nat.zero_mul, Nat.add_zero] at h0
    obtain ⟨x, hx⟩ := hf _ h0
    rw [Nat.succ_mul] at hl
    obtain ⟨xs, h1, h2⟩ := inS_rows (w := w) hf (len := len) (l := l) (off := off + sh.length) (by omega) (fun i hi => by
      have := h (i + 1) (by omega)
      rw [Nat.succ_mul] at this
      rw [show off + sh.length + i * sh.length = off + (i * sh.length + sh.length) from by omega]
      exact this)
    refine ⟨x :: xs, by simp [h1], ?_⟩
    rw [Nat.succ_mul, Nat.add_comm (len * sh.length), List.take_add, List.drop_drop, hx, h2]
    rfl
theorem src_zero {P : Program} {w0 : World} {K : Hp} {x : Addr} {cap : Nat} : Src P w0 K 1 (.slice (some x) 0 cap) 0 (bs []) := fun w hw => ⟨rfl, by
  simp [Builtin.firstCells, loadCells, bs]
  rfl⟩
theorem in_bytes {len off : Nat} {l : List Value} (hl : off + len * (List.length (α := Sc) [.int .u8]) ≤ l.length) (hf : ∀ i, i < len → Fits [.int .u8] ((l.drop (off + i * (List.length (α := Sc) [.int .u8]))).take (List.length (α := Sc) [.int .u8]))) :
    ∃ u : List UInt8, u.length = len ∧ (l.drop off).take (len * 1) = bs u := by
  obtain ⟨xs, h1, h2⟩ := inS_rows (w := default) (α := UInt8) (f := fun b => [u8 b]) (fun cs hc => by
    obtain ⟨u, rfl, h⟩ := Fits.bytes (n := 1) hc
    match u, h with
    | [b], _ => exact ⟨b, rfl⟩) hl hf
  refine ⟨xs, h1, h2.trans ?_⟩
  clear h1 h2
  induction xs with
  | nil => rfl
  | cons x xs ih => simp only [List.map_cons, List.flatten_cons, ih]; rfl
end
end Go.Sl

/- Rows over a slice of acts (own work). -/
set_option linter.unusedVariables false
namespace Go.Sl
open Go.RowKit
theorem fits_act {cs : List Value} (h : Fits [.int .i64, .int .i64, .int .u8, .int .u8, .bool] cs) : ∃ x, cs = acells x := by
  obtain ⟨_, _, rfl, ⟨a, rfl, _⟩, g1⟩ := Fits.cons_iff.1 h
  obtain ⟨_, _, rfl, ⟨b, rfl, _⟩, g2⟩ := Fits.cons_iff.1 g1
  obtain ⟨_, _, rfl, ⟨c, rfl, hc⟩, g3⟩ := Fits.cons_iff.1 g2
  obtain ⟨_, _, rfl, ⟨d, rfl, hd⟩, g4⟩ := Fits.cons_iff.1 g3
  obtain ⟨_, _, rfl, ⟨e, rfl⟩, g5⟩ := Fits.cons_iff.1 g4
  obtain rfl := Fits.nil_iff.1 g5
  have hb := bounds_u8 hc
  have hb2 := bounds_u8 hd
  refine ⟨⟨a, b, UInt8.ofNat c.toNat, UInt8.ofNat d.toNat, e⟩, ?_⟩
  simp
  omega
theorem in_acts {w : World} {a : Option Addr} {len cap : Nat} (h : InS w [.int .i64, .int .i64, .int .u8, .int .u8, .bool] a len cap) : ∃ ds : List ActM, len = ds.length ∧ Holds w [] a (acts ds) := by
  rcases h with ⟨rfl, rfl, rfl⟩ | ⟨x, rfl, h1, h2, h3⟩
  · exact ⟨[], rfl, fun hp => by simp [acts] at hp⟩
  · rcases Nat.eq_zero_or_pos len with rfl | hp
    · exact ⟨[], rfl, fun hp => by simp [acts] at hp⟩
    · obtain ⟨b, off, l, T, fr, rfl, hb, hl, hf⟩ := h3 hp
      obtain ⟨ds, hd, ht⟩ := inS_rows (w := w) (f := acells) (fun cs hc => fits_act hc) hl hf
      refine ⟨ds, hd.symm, fun _ => ⟨b, off, l, T, fr, rfl, sees_old hb, ?_, ?_⟩⟩
      · rw [acts_len, hd]; exact hl
      · rw [acts_len, hd]; exact ht
end Go.Sl


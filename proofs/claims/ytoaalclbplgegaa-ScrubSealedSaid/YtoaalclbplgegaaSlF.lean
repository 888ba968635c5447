/- The calculus, sixth part (own work): ends of bodies, small words. -/
import Derived.Test.YtoaalclbplgegaaSlE
set_option linter.unusedVariables false
set_option linter.unusedSimpArgs false
namespace Go.Sl
open Go.RowKit (Below)
variable {P : Program} {n : FN} {w0 : World} {Q : Post} {E E' : Env} {H H' HS : Hp} {W : World → Prop} {K : Env → Hp → Prop}

theorem ones {vs : List Value} (h : vs.all one = true) : ∀ v ∈ vs, one v = true := List.all_eq_true.1 h
theorem rv_nil : RV P w0 E H [] [] := trivial
theorem rv_tmp {t : Nat} {v : Value} {rs : List ResultVar} {vs : List Value} (h : look E t = some v) (hr : RV P w0 E H rs vs) : RV P w0 E H (.tmp t :: rs) (v :: vs) := ⟨h, hr⟩
theorem rv_cellA {t ty b i m : Nat} {l us : List Value} {T : TypeId} {fr : Nat × Nat} {rs : List ResultVar} {vs : List Value} (h : look E t = some (.pointer (some ⟨b, i, none⟩))) (ht : isAggT P ty = some true) (hz : szT P ty = some m)
    (hs : Sees (fun w => St w0 w H) b (.cells l.toArray T fr)) (hm : i + m ≤ l.length) (hv : (l.drop i).take m = us) (hr : RV P w0 E H rs vs) : RV P w0 E H (.cell t ty :: rs) (.agg us.toArray :: vs) :=
  ⟨⟨_, h, fun w hw => by rw [run_loadVarA ht hz (hs w hw) hm, hv]⟩, hr⟩
theorem rv_cell1 {t ty b i : Nat} {v : Value} {l : List Value} {T : TypeId} {fr : Nat × Nat} {rs : List ResultVar} {vs : List Value} (h : look E t = some (.pointer (some ⟨b, i, none⟩))) (ht : isAggT P ty = some false)
    (hs : Sees (fun w => St w0 w H) b (.cells l.toArray T fr)) (hv : l[i]? = some v) (hr : RV P w0 E H rs vs) : RV P w0 E H (.cell t ty :: rs) (v :: vs) :=
  ⟨⟨_, h, fun w hw => run_loadVar1 ht (hs w hw) hv⟩, hr⟩
theorem B_ret {rs : List ResultVar} {vs : List Value} {R : Ending → Hp → Prop} (hrv : RV P w0 E H rs vs) (hs : HSub H' H) (hR : R (.returned (pack vs)) H') : BodyQ P w0 rs R .ret E H := ⟨vs, H', hrv, hs, hR⟩
theorem B_end {rs : List ResultVar} {vs : List Value} {R : Ending → Hp → Prop} (hrv : RV P w0 E H rs vs) (hs : HSub H' H) (hR : R (.returned (pack vs)) H') : BodyQ P w0 rs R .normal E H := ⟨vs, H', hrv, hs, hR⟩
theorem wi64 {m : Int} (h0 : -9223372036854775808 ≤ m) (h1 : m ≤ 9223372036854775807) : IntKind.i64.wrap m = m := by rw [IntKind.wrap_i64]; omega
theorem wu64 {m : Int} (h0 : 0 ≤ m) (h1 : m ≤ 18446744073709551615) : IntKind.u64.wrap m = m := by simp only [IntKind.wrap, IntKind.bits, IntKind.signed]; simp; omega
theorem wu8 {m : Int} (h0 : 0 ≤ m) (h1 : m ≤ 255) : IntKind.u8.wrap m = m := by rw [IntKind.wrap_u8]; omega
theorem slOk_none {sz len : Nat} {xs : List Value} (h : slOk sz none len xs) (hl : len ≠ 0) {α : Prop} : α := absurd h.2 hl
theorem Src.up {P : Program} {w0 : World} {H : Hp} {sz m : Nat} {v : Value} {vs : List Value} {X : List (Nat × Obj)} (h : Src P w0 H sz v m vs) : Src P w0 (X :: H) sz v m vs := h.sub (HSub.drop _ _)
theorem Sees.up {b : Nat} {o : Obj} {S : List (Nat × Obj)} (h : Sees (fun w => St w0 w H) b o) : Sees (fun w => St w0 w (S :: H)) b o := h.sub (HSub.drop S H)
theorem pair_ret {v v' : Value} {H' : Hp} (e : v = v') : Ending.returned v = .returned v' := by rw [e]
/-- A cut behind a statement: what is known there is told anew. -/
theorem C_cutE {x y : Code} (Ec : Env) (Hc : Hp) (h : WpC P n w0 x (thenQ (fun E' H' => SubEnv Ec E' ∧ HSub Hc H') Q) E H) (hk : WpC P n w0 y Q Ec Hc) : WpC P n w0 (.seq x y) Q E H :=
  C_cut _ h fun E H h => C_weaken h.1 h.2 hk
/-- The same, for some ghost. -/
theorem C_cutG {ι : Type} {x y : Code} (G : ι → Prop) (Ec : ι → Env) (Hc : ι → Hp) (h : WpC P n w0 x (thenQ (fun E' H' => ∃ i, G i ∧ SubEnv (Ec i) E' ∧ HSub (Hc i) H') Q) E H)
    (hk : ∀ i, G i → WpC P n w0 y Q (Ec i) (Hc i)) : WpC P n w0 (.seq x y) Q E H :=
  C_cut _ h fun E H ⟨i, g, h1, h2⟩ => C_weaken h1 h2 (hk i g)
/-- A contract of a group of segments, used behind others. -/
theorem perm_mid (F A L : Hp) : (F ++ (A ++ L)).flatten.Perm (A ++ (F ++ L)).flatten := by
  simp only [List.flatten_append]
  rw [← List.append_assoc, ← List.append_assoc]
  exact List.perm_append_comm.append_right _
theorem FnS.mid {f : Nat} {args : Array Value} {A : Hp} {φ : Ending → Hp → Prop} (F L : Hp) (h : ∀ L, FnS P w0 f args (A ++ L) fun e H' => ∃ A', φ e A' ∧ H' = A' ++ L) :
    FnS P w0 f args (F ++ (A ++ L)) fun e H' => ∃ A', φ e A' ∧ H' = F ++ (A' ++ L) := fun w hw => by
  refine (h (F ++ L) w (HSub.of_perm (perm_mid F A L) w0 w hw)).mono ?_
  rintro e w' ⟨H', s, A', hφ, rfl⟩
  exact ⟨_, HSub.of_perm (perm_mid F A' L).symm w0 w' s, A', hφ, rfl⟩
theorem flatten_sublist : ∀ {H' H : Hp}, H'.Sublist H → H'.flatten.Sublist H.flatten
  | _, _, .slnil => List.Sublist.refl _
  | _, _, .cons S h => by simp only [List.flatten_cons]; exact (flatten_sublist h).trans (List.sublist_append_right _ _)
  | _, _, .cons_cons S h => by simp only [List.flatten_cons]; exact (List.Sublist.refl S).append (flatten_sublist h)
/-- Some segments are dropped. -/
theorem hsub {H' H : Hp} (h : H'.Sublist H) : HSub H' H := .of_sublist (List.Perm.refl _) (flatten_sublist h)
theorem FnS.weak {f : Nat} {args : Array Value} {R R' : Ending → Hp → Prop} (h : FnS P w0 f args H R) (hr : ∀ e H', R e H' → ∃ H2, HSub H2 H' ∧ R' e H2) : FnS P w0 f args H R' :=
  fun w hw => (h w hw).mono fun e w' ⟨H', s, r⟩ => let ⟨H2, hs, r2⟩ := hr e H' r; ⟨H2, hs w0 w' s, r2⟩
/-! ### Structs of whole numbers -/
def intFieldsT (P : Program) (t : TypeId) : Option (List IntKind) :=
  match P.underlying t with
  | some (.struct fs) => if (fs.toList.zipIdx.all fun p => p.1.name != "_" && p.1.offset == p.2) && !P.stoodInHeld t then fs.toList.mapM fun f => match P.underlying f.type with | some (.int k) => some k | _ => none else none
  | _ => none
def ints (ks : List IntKind) (xs : List Int) : List Value := List.zipWith Value.int ks xs
theorem run_eqFields {d : Nat} {w : World} : ∀ (fs : List Field) (ks : List IntKind) (xs ys : List Int) (pre pre' : List Value), pre.length = pre'.length → xs.length = ks.length → ys.length = ks.length →
    (fs.zipIdx pre.length).all (fun p => p.1.name != "_" && p.1.offset == p.2) = true → fs.mapM (fun f => match P.underlying f.type with | some (.int k) => some k | _ => none) = some ks →
    (Op.eqFields (d + 1) (pre ++ ints ks xs).toArray (pre' ++ ints ks ys).toArray fs).run P w = .ok (decide (xs = ys)) w
  | [], ks, xs, ys, pre, pre', hp, hx, hy, hall, hm => by
    simp at hm; subst hm
    have := List.eq_nil_of_length_eq_zero hx
    have := List.eq_nil_of_length_eq_zero hy
    subst_vars
    simp [Op.eqFields]
  | f :: fs, ks, xs, ys, pre, pre', hp, hx, hy, hall, hm => by
    simp only [List.mapM_cons, Option.bind_eq_bind, Option.bind_eq_some_iff, Option.pure_def, Option.some.injEq] at hm
    obtain ⟨k, hk, ks', hks, rfl⟩ := hm
    cases xs with
    | nil => simp at hx
    | cons x xs => cases ys with
      | nil => simp at hy
      | cons y ys =>
        simp only [List.zipIdx_cons, List.all_cons, Bool.and_eq_true, bne_iff_ne, beq_iff_eq] at hall
        obtain ⟨⟨hn, ho⟩, hall⟩ := hall
        have hu : P.underlying f.type = some (.int k) := by
          split at hk
          · simp at hk; subst hk; assumption
          · cases hk
        have px : (part f.type (pre ++ ints (k :: ks') (x :: xs)).toArray f.offset).run P w = .ok (.int k x) w := by
          simp only [part, Sem.run_bind, isAgg, run_underlying hu, Result.andThen_ok, Sem.run_pure, Bool.false_eq_true, if_false, ho]
          simp [ints]
        have py : (part f.type (pre' ++ ints (k :: ks') (y :: ys)).toArray f.offset).run P w = .ok (.int k y) w := by
          simp only [part, Sem.run_bind, isAgg, run_underlying hu, Result.andThen_ok, Sem.run_pure, Bool.false_eq_true, if_false, ho, hp]
          simp [ints]
        have pe : (Op.equalIn (d + 1) f.type (.int k x) (.int k y)).run P w = .ok (x == y) w := run_equalIn_int w d f.type k k x y hu
        rw [Op.eqFields, if_pos hn]
        simp only [Sem.run_bind, px, py, pe, Result.andThen_ok]
        by_cases e : x = y
        · subst e
          have ih := run_eqFields (d := d) (w := w) fs ks' xs ys (pre ++ [.int k x]) (pre' ++ [.int k x]) (by simp [hp]) (by simpa using hx) (by simpa using hy) (by simpa using hall) hks
          simp only [beq_self_eq_true, Bool.not_true, Bool.false_eq_true, if_false]
          have e1 : pre ++ ints (k :: ks') (x :: xs) = pre ++ [.int k x] ++ ints ks' xs := by simp [ints]
          have e2 : pre' ++ ints (k :: ks') (x :: ys) = pre' ++ [.int k x] ++ ints ks' ys := by simp [ints]
          rw [e1, e2, ih]
          simp
        · have : (x == y) = false := by simpa using e
          simp [this, e]
section
variable {x y : Operand} {ty t t2 : Nat}
theorem run_eq_ints {ks : List IntKind} {xs ys : List Int} (hi : intFieldsT P t = some ks) (hlx : xs.length = ks.length) (hly : ys.length = ks.length) (w : World) :
    (Op.equalIn 10000 t (.agg (ints ks xs).toArray) (.agg (ints ks ys).toArray)).run P w = .ok (decide (xs = ys)) w := by
  unfold intFieldsT at hi
  cases hu : P.underlying t with
  | none => simp [hu] at hi
  | some dd =>
    rw [hu] at hi
    cases dd <;> simp only [reduceCtorEq] at hi
    rename_i fs
    split at hi
    · rename_i h
      simp only [Bool.and_eq_true, Bool.not_eq_true'] at h
      have hf : P.fieldsOf t = fs := by simp [Program.fieldsOf, hu]
      have h1 := run_equalIn_struct (P := P) w 9999 t (ints ks xs).toArray (ints ks ys).toArray (by rw [hf]; exact hu) h.2
      rw [hf] at h1
      have h2 := run_eqFields (P := P) (d := 9998) (w := w) fs.toList ks xs ys [] [] rfl hlx hly (by simpa using h.1) hi
      exact h1.trans h2
    · cases hi
theorem y_eqst {ks : List IntKind} {xs ys : List Int} (hx : ev E x = some (.agg (ints ks xs).toArray)) (hy : ev E y = some (.agg (ints ks ys).toArray)) (hi : intFieldsT P t = some ks) (hg : P.eqGuardType P.depth t = false)
    (hlx : xs.length = ks.length) (hly : ys.length = ks.length) : YV P n E W (.binOp .eql t x y t2) ty (.bool (decide (xs = ys))) := fun fr w hfr _ d ps af g => by
  simp only [execOp, hfr.eval hx, hfr.eval hy, Sem.run_bind, run_eqGuard_agg w .eql t x y _ _ hg, Result.andThen_ok]
  rw [run_eql_struct, run_eq_ints hi hlx hly w]
  rfl
theorem y_nest {ks : List IntKind} {xs ys : List Int} (hx : ev E x = some (.agg (ints ks xs).toArray)) (hy : ev E y = some (.agg (ints ks ys).toArray)) (hi : intFieldsT P t = some ks) (hg : P.eqGuardType P.depth t = false)
    (hlx : xs.length = ks.length) (hly : ys.length = ks.length) : YV P n E W (.binOp .neq t x y t2) ty (.bool (!decide (xs = ys))) := fun fr w hfr _ d ps af g => by
  simp only [execOp, hfr.eval hx, hfr.eval hy, Sem.run_bind, run_eqGuard_agg w .neq t x y _ _ hg, Result.andThen_ok]
  rw [run_neq_struct, run_eq_ints hi hlx hly w]
  rfl
end
theorem sub_bytes {l : List Value} {off m i k : Nat} {u : List UInt8} (h : (l.drop off).take m = bs u) (hik : i + k ≤ m) : (l.drop (off + i)).take k = bs ((u.drop i).take k) := by
  have h1 : ((l.drop off).take m).drop i = (bs u).drop i := by rw [h]
  rw [List.drop_take, List.drop_drop] at h1
  rw [← bs_take, ← bs_drop, ← h1, List.take_take]
  congr 1
  omega
/-- Segments that lie together may be told as one. -/
theorem hsub_flat {H H' : Hp} (h : H.flatten = H'.flatten) : HSub H' H := HSub.of_perm (by rw [h])
/-- What a contract says of a run. -/
theorem FnS.run {f : Nat} {args : Array Value} {R : Ending → Hp → Prop} (h : FnS P w0 f args [] R) : Calls P f args w0 fun e w' => Below w0.heap.size w0 w' ∧ ∃ H', R e H' :=
  (h w0 (St.start w0)).mono fun e w' ⟨H', s, r⟩ => ⟨s.below, H', r⟩
end Go.Sl

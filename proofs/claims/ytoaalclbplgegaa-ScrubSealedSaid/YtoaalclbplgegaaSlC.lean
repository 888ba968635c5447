/- The calculus, third part (own work): the operations that only yield a value. -/
import Derived.Test.YtoaalclbplgegaaSlB
import Derived.Laws.BitsLemmas
set_option linter.unusedVariables false
set_option linter.unusedSimpArgs false
namespace Go.Sl
open Go.RowKit (Below)
variable {P : Program} {n : FN} {w0 : World} {Q : Post} {E E' : Env} {H H' HS : Hp} {W : World → Prop}

/-! ### Facts of types, for the kernel -/
def szT (P : Program) (t : TypeId) : Option Nat := (P.info? t).map (·.size)
def byT (P : Program) (t : TypeId) : Option Nat := (P.info? t).map (·.bytes)
def zeroL (P : Program) (t : TypeId) : Option (List Value) := ((P.info? t).bind (·.zero)).map fun v => v.cells.toList
def zeroT (P : Program) (t : TypeId) : Option Value := (P.info? t).bind (·.zero)
def isAggT (P : Program) (t : TypeId) : Option Bool := (P.underlying t).map fun d => match d with | .struct _ | .array _ _ => true | _ => false
def fldT (P : Program) (s : TypeId) (f : Nat) : Option Nat :=
  match P.underlying s with
  | some (.struct fs) => match fs[f]? with
    | some fd => match szT P fd.type with
      | some (_ + 1) => some fd.offset
      | _ => none
    | none => none
  | _ => none
theorem run_sizeOf {t m : Nat} (h : szT P t = some m) (w : World) : (sizeOf t).run P w = .ok m w := by
  unfold szT at h
  cases hi : P.info? t with
  | none => simp [hi] at h
  | some i => simp [hi] at h; simp [sizeOf, typeInfo, hi, h]
theorem run_isAgg {t : Nat} {b : Bool} (h : isAggT P t = some b) (w : World) : (isAgg t).run P w = .ok b w := by
  unfold isAggT at h
  cases hu : P.underlying t with
  | none => simp [hu] at h
  | some d =>
    simp only [hu, Option.map_some, Option.some.injEq] at h
    unfold isAgg
    rw [Sem.run_bind, run_underlying hu w]
    simp only [Result.andThen_ok]
    cases d <;> simp_all
theorem run_zeroValue {t : Nat} {v : Value} (h : zeroT P t = some v) (w : World) : (zeroValue t).run P w = .ok v w := by
  unfold zeroT at h
  cases hi : P.info? t with
  | none => simp [hi] at h
  | some i => simp [hi] at h; simp [zeroValue, typeInfo, hi, h]
theorem zeroT_of_L {t : Nat} {l : List Value} (h : zeroL P t = some l) : ∃ v, zeroT P t = some v ∧ v.cells.toList = l := by
  unfold zeroL at h
  unfold zeroT
  cases hz : (P.info? t).bind (·.zero) with
  | none => simp [hz] at h
  | some v => simp [hz] at h; exact ⟨v, rfl, h⟩
theorem run_bytes {t m : Nat} (h : byT P t = some m) (w : World) : ∃ i, (typeInfo t).run P w = .ok i w ∧ i.bytes = m := by
  unfold byT at h
  cases hi : P.info? t with
  | none => simp [hi] at h
  | some i => simp [hi] at h; exact ⟨i, by simp [typeInfo, hi], h⟩

/-! ### Reading memory -/
theorem cell_of_block {w : World} {b i : Nat} {l : List Value} {T : TypeId} {fr : Nat × Nat} (h : w.heap[b]? = some (.cells l.toArray T fr)) : w.cell? ⟨b, i, none⟩ = l[i]? := by
  simp [World.cell?, h]
theorem addr_add (b off j : Nat) : (⟨b, off, none⟩ : Addr).add j = ⟨b, off + j, none⟩ := by
  unfold Addr.add; split <;> simp_all
theorem run_loadCells_at {w : World} {b off m : Nat} {l : List Value} {T : TypeId} {fr : Nat × Nat} (h : w.heap[b]? = some (.cells l.toArray T fr)) (hm : off + m ≤ l.length) :
    (loadCells ⟨b, off, none⟩ m).run P w = .ok ((l.drop off).take m).toArray w := by
  have hlen : ((l.drop off).take m).length = m := by simp; omega
  have := run_loadCells_list (P := P) w ⟨b, off, none⟩ ((l.drop off).take m) (fun j v hv => by
    rw [addr_add, cell_of_block h]
    have hj : j < m := by
      rcases Nat.lt_or_ge j m with h | h
      · exact h
      · rw [List.getElem?_eq_none (by omega)] at hv; cases hv
    rw [List.getElem?_take_of_lt hj, List.getElem?_drop] at hv
    exact hv)
  rwa [hlen] at this
theorem run_loadVar1 {t : Nat} (ht : isAggT P t = some false) {w : World} {b i : Nat} {l : List Value} {T : TypeId} {fr : Nat × Nat} {v : Value}
    (h : w.heap[b]? = some (.cells l.toArray T fr)) (hv : l[i]? = some v) : (loadVar t ⟨b, i, none⟩).run P w = .ok v w := by
  have hc := (cell_of_block (i := i) h).trans hv
  simp [loadVar, run_isAgg ht, hc]
theorem run_loadVarA {t m : Nat} (ht : isAggT P t = some true) (hs : szT P t = some m) {w : World} {b i : Nat} {l : List Value} {T : TypeId} {fr : Nat × Nat}
    (h : w.heap[b]? = some (.cells l.toArray T fr)) (hm : i + m ≤ l.length) : (loadVar t ⟨b, i, none⟩).run P w = .ok (.agg ((l.drop i).take m).toArray) w := by
  simp only [loadVar, Sem.run_bind, run_isAgg ht, Result.andThen_ok, run_sizeOf hs, run_loadCells_at h hm, if_true, Sem.run_pure]

/-! ### Values -/
section
variable {x y c : Operand} {ty t t2 : Nat}
theorem y_move {v : Value} (hx : ev E x = some v) : YV P n E W (.move x) ty v := fun a w ha _ d ps af g => by
  simp [execOp, ha.eval hx]
theorem y_assign {v : Value} (hx : ev E x = some v) : YV P n E W (.assign x) ty v := fun a w ha _ d ps af g => by
  simp [execOp, ha.eval hx]
theorem y_pick_t {v : Value} (hc : ev E c = some (.bool true)) (hx : ev E x = some v) : YV P n E W (.pick c x y) ty v := fun a w ha _ d ps af g => by
  simp [execOp, ha.eval hx, ha.eval hc, asBool]
theorem y_pick_f {v : Value} (hc : ev E c = some (.bool false)) (hy : ev E y = some v) : YV P n E W (.pick c x y) ty v := fun a w ha _ d ps af g => by
  simp [execOp, ha.eval hy, ha.eval hc, asBool]
theorem y_not {b : Bool} (hx : ev E x = some (.bool b)) : YV P n E W (.unOp .not t x) ty (.bool !b) := fun a w ha _ d ps af g => by
  simp [execOp, ha.eval hx, Op.unary]
theorem y_bin {op : BinOp} {k : IntKind} {m m' : Int} {v : Value} (hx : ev E x = some (.int k m)) (hy : ev E y = some (.int k m'))
    (h : binOp op t (.int k m) (.int k m') = pure v) : YV P n E W (.binOp op t x y t2) ty v := fun a w ha _ d ps af g => by
  simp only [execOp, ha.eval hx, ha.eval hy, eqGuard_at_int, h]
  simp
theorem y_lss {k : IntKind} {m m' : Int} (hx : ev E x = some (.int k m)) (hy : ev E y = some (.int k m')) : YV P n E W (.binOp .lss t x y t2) ty (.bool (decide (m < m'))) := y_bin hx hy (binOp_lss t k m m')
theorem y_leq {k : IntKind} {m m' : Int} (hx : ev E x = some (.int k m)) (hy : ev E y = some (.int k m')) : YV P n E W (.binOp .leq t x y t2) ty (.bool (decide (m ≤ m'))) := y_bin hx hy (binOp_leq t k m m')
theorem y_gtr {k : IntKind} {m m' : Int} (hx : ev E x = some (.int k m)) (hy : ev E y = some (.int k m')) : YV P n E W (.binOp .gtr t x y t2) ty (.bool (decide (m' < m))) := y_bin hx hy (binOp_gtr t k m m')
theorem y_geq {k : IntKind} {m m' : Int} (hx : ev E x = some (.int k m)) (hy : ev E y = some (.int k m')) : YV P n E W (.binOp .geq t x y t2) ty (.bool (decide (m' ≤ m))) := y_bin hx hy (binOp_geq t k m m')
theorem y_eqi {k : IntKind} {m m' : Int} (hx : ev E x = some (.int k m)) (hy : ev E y = some (.int k m')) : YV P n E W (.binOp .eql t x y t2) ty (.bool (decide (m = m'))) := y_bin hx hy (binOp_eql t k m m')
theorem y_nei {k : IntKind} {m m' : Int} (hx : ev E x = some (.int k m)) (hy : ev E y = some (.int k m')) : YV P n E W (.binOp .neq t x y t2) ty (.bool (!decide (m = m'))) := y_bin hx hy (binOp_neq t k m m')
theorem y_add {k : IntKind} {m m' r : Int} (hx : ev E x = some (.int k m)) (hy : ev E y = some (.int k m')) (hr : k.wrap (m + m') = r) : YV P n E W (.binOp .add t x y t2) ty (.int k r) :=
  y_bin hx hy (by rw [binOp_add]; simp [Op.intArith, hr])
theorem y_sub {k : IntKind} {m m' r : Int} (hx : ev E x = some (.int k m)) (hy : ev E y = some (.int k m')) (hr : k.wrap (m - m') = r) : YV P n E W (.binOp .sub t x y t2) ty (.int k r) :=
  y_bin hx hy (by rw [binOp_sub]; simp [Op.intArith, hr])
theorem y_mul {k : IntKind} {m m' r : Int} (hx : ev E x = some (.int k m)) (hy : ev E y = some (.int k m')) (hr : k.wrap (m * m') = r) : YV P n E W (.binOp .mul t x y t2) ty (.int k r) :=
  y_bin hx hy (by rw [binOp_mul]; simp [Op.intArith, hr])
theorem y_rem {k : IntKind} {m m' r : Int} (hx : ev E x = some (.int k m)) (hy : ev E y = some (.int k m')) (h0 : m' ≠ 0) (hr : m.tmod m' = r) : YV P n E W (.binOp .rem t x y t2) ty (.int k r) :=
  y_bin hx hy (by rw [binOp_rem]; simp [Op.intDiv, h0, hr])
theorem y_quo {k : IntKind} {m m' r : Int} (hx : ev E x = some (.int k m)) (hy : ev E y = some (.int k m')) (h0 : m' ≠ 0) (hr : k.wrap (m.tdiv m') = r) : YV P n E W (.binOp .quo t x y t2) ty (.int k r) :=
  y_bin hx hy (by rw [binOp_quo]; simp [Op.intDiv, h0, hr])
theorem y_xor {k : IntKind} {m m' r : Int} (hx : ev E x = some (.int k m)) (hy : ev E y = some (.int k m')) (hr : bits .xor k m m' = r) : YV P n E W (.binOp .xor t x y t2) ty (.int k r) :=
  y_bin hx hy (by rw [binOp_xor, intBits_xor, hr])
theorem y_or {k : IntKind} {m m' r : Int} (hx : ev E x = some (.int k m)) (hy : ev E y = some (.int k m')) (hr : bits .or k m m' = r) : YV P n E W (.binOp .or t x y t2) ty (.int k r) :=
  y_bin hx hy (by rw [binOp_or, intBits_or, hr])
theorem y_and {k : IntKind} {m m' r : Int} (hx : ev E x = some (.int k m)) (hy : ev E y = some (.int k m')) (hr : bits .and k m m' = r) : YV P n E W (.binOp .and t x y t2) ty (.int k r) :=
  y_bin hx hy (by rw [binOp_and, intBits_and, hr])
theorem y_shl {k k' : IntKind} {m m' r : Int} (hx : ev E x = some (.int k m)) (hy : ev E y = some (.int k' m')) (h0 : 0 ≤ m') (hr : k.wrap (m * 2 ^ (min m'.toNat k.bits)) = r) : YV P n E W (.binOp .shl t x y t2) ty (.int k r) :=
  fun a w ha _ d ps af g => by
    have h : ¬ m' < 0 := by omega
    simp only [execOp, ha.eval hx, ha.eval hy, eqGuard_at_int, binOp_shl]
    simp [Op.shift, h, hr]
theorem y_shr {k k' : IntKind} {m m' r : Int} (hx : ev E x = some (.int k m)) (hy : ev E y = some (.int k' m')) (h0 : 0 ≤ m') (hr : m.fdiv (2 ^ (min m'.toNat k.bits)) = r) : YV P n E W (.binOp .shr t x y t2) ty (.int k r) :=
  fun a w ha _ d ps af g => by
    have h : ¬ m' < 0 := by omega
    simp only [execOp, ha.eval hx, ha.eval hy, eqGuard_at_int, binOp_shr]
    simp [Op.shift, h, hr]
theorem y_eqb {b c : Bool} (hx : ev E x = some (.bool b)) (hy : ev E y = some (.bool c)) (hu : P.underlying t = some .bool) : YV P n E W (.binOp .eql t x y t2) ty (.bool (b == c)) := fun a w ha _ d ps af g => by
  have h := run_equal_bool (P := P) w t b c hu
  simp only [execOp, ha.eval hx, ha.eval hy, eqGuard_at_bool, binOp]
  simp [h]
theorem y_neb {b c : Bool} (hx : ev E x = some (.bool b)) (hy : ev E y = some (.bool c)) (hu : P.underlying t = some .bool) : YV P n E W (.binOp .neq t x y t2) ty (.bool (!(b == c))) := fun a w ha _ d ps af g => by
  have h := run_equal_bool (P := P) w t b c hu
  simp only [execOp, ha.eval hx, ha.eval hy, eqGuard_at_bool, binOp]
  simp [h]
theorem run_equal_nilp {e : Nat} (hu : P.underlying t = some (.pointer e)) (p : Option Addr) (w : World) : (Op.equal t (.pointer p) (.pointer none)).run P w = .ok p.isNone w := by
  have key : ∀ d, (Op.equalIn (d + 1) t (.pointer p) (.pointer none)).run P w = .ok p.isNone w := fun d => by
    cases p <;> simp [Op.equalIn, run_underlying hu]
  exact key 9999
theorem y_eqp {p : Option Addr} {e : Nat} (hx : ev E x = some (.pointer p)) (hy : ev E y = some (.pointer none)) (hu : P.underlying t = some (.pointer e)) : YV P n E W (.binOp .eql t x y t2) ty (.bool p.isNone) := fun a w ha _ d ps af g => by
  have h := run_equal_nilp hu p w
  simp only [execOp, ha.eval hx, ha.eval hy, eqGuard_at_pointer, binOp]
  simp [h]
theorem y_nep {p : Option Addr} {e : Nat} (hx : ev E x = some (.pointer p)) (hy : ev E y = some (.pointer none)) (hu : P.underlying t = some (.pointer e)) : YV P n E W (.binOp .neq t x y t2) ty (.bool (!p.isNone)) := fun a w ha _ d ps af g => by
  have h := run_equal_nilp hu p w
  simp only [execOp, ha.eval hx, ha.eval hy, eqGuard_at_pointer, binOp]
  simp [h]
theorem y_eqs {p : Option Addr} {l c e : Nat} (hx : ev E x = some (.slice p l c)) (hy : ev E y = some (.slice none 0 0)) (hu : P.underlying t = some (.slice e)) : YV P n E W (.binOp .eql t x y t2) ty (.bool p.isNone) := fun a w ha _ d ps af g => by
  have h := run_equal_slice_nil (P := P) w t e p l c hu
  simp only [execOp, ha.eval hx, ha.eval hy, eqGuard_at_slice, binOp]
  simp [h]
theorem y_nilCheck {p : Addr} (hx : ev E x = some (.pointer (some p))) : YV P n E W (.nilCheck x) ty (.pointer (some p)) := fun a w ha _ d ps af g => by
  simp [execOp, ha.eval hx]
theorem y_conv {src dst : Nat} {k k' : IntKind} {m r : Int} (hx : ev E x = some (.int k' m)) (hs : (P.underlying src).isSome = true) (hd : P.underlying dst = some (.int k)) (hr : k.wrap m = r) :
    YV P n E W (.convert src dst x) ty (.int k r) := fun a w ha _ d ps af g => by
  obtain ⟨d', hd'⟩ := Option.isSome_iff_exists.mp hs
  simp [execOp, ha.eval hx, convert, run_underlying hd', run_underlying hd, Conv.intToInt, hr]
theorem y_extract {vs : List Value} {i : Nat} {v : Value} (hx : ev E x = some (.tuple vs.toArray)) (hv : vs[i]? = some v) : YV P n E W (.extract x i) ty v := fun a w ha _ d ps af g => by
  simp [execOp, ha.eval hx, Instr.extract, hv]
theorem y_makeFunc {fn : Fn} {first captured : List Operand} {vs us : List Value} (h1 : first.mapM (ev E) = some vs) (h2 : captured.mapM (ev E) = some us) :
    YV P n E W (.makeFunc fn first.toArray captured.toArray) ty (.func fn vs.toArray us.toArray) := fun a w ha _ d ps af g => by
  have key : ∀ (l : List Operand) (vs : List Value), l.mapM (ev E) = some vs → l.map a.eval = vs := by
    intro l
    induction l with
    | nil => intro vs h; simp at h; simp [h]
    | cons x l ih =>
      intro vs h
      simp only [List.mapM_cons, Option.bind_eq_bind, Option.bind_eq_some_iff, Option.pure_def, Option.some.injEq] at h
      obtain ⟨v, hv, us, hus, rfl⟩ := h
      simp [ha.eval hv, ih us hus]
  simp [execOp, Instr.makeFunc, key _ _ h1, key _ _ h2]
theorem evals {a : Act} (ha : FrOk n E a) : ∀ {l : List Operand} {vs : List Value}, l.mapM (ev E) = some vs → l.map a.eval = vs := by
  intro l
  induction l with
  | nil => intro vs h; simp at h; simp [h]
  | cons x l ih =>
    intro vs h
    simp only [List.mapM_cons, Option.bind_eq_bind, Option.bind_eq_some_iff, Option.pure_def, Option.some.injEq] at h
    obtain ⟨v, hv, us, hus, rfl⟩ := h
    simp [ha.eval hv, ih hus]
theorem y_makeIface {xt : Nat} {v : Value} {dd : TypeDesc} (hx : ev E x = some v) (hu : P.underlying xt = some dd) (hn : (match dd with | .interface _ => true | _ => false) = false) :
    YV P n E W (.makeInterface xt x) ty (.iface xt v) := fun a w ha _ d ps af g => by
  simp only [execOp, ha.eval hx, Instr.makeInterface, Sem.run_bind, run_underlying hu, Result.andThen_ok]
  cases dd <;> first | (simp at hn; done) | rfl
theorem y_fieldAddr {s f b i off : Nat} (hx : ev E x = some (.pointer (some ⟨b, i, none⟩))) (hf : fldT P s f = some off) : YV P n E W (.fieldAddr s x f) ty (.pointer (some ⟨b, i + off, none⟩)) := fun a w ha _ d ps af g => by
  unfold fldT at hf
  cases hu : P.underlying s with
  | none => simp [hu] at hf
  | some dd =>
    rw [hu] at hf
    cases dd <;> simp at hf
    rename_i fs
    cases hfs : fs[f]? with
    | none => simp [hfs] at hf
    | some fd =>
      simp only [hfs] at hf
      cases hz : szT P fd.type with
      | none => simp [hz] at hf
      | some m =>
        cases m with
        | zero => simp [hz] at hf
        | succ m =>
          simp [hz] at hf
          simp only [execOp, ha.eval hx, Instr.fieldAt, Sem.run_bind, run_underlying hu, Result.andThen_ok, hfs, Instr.sureAddr, Sem.run_pure, fieldPlace, run_sizeOf hz]
          simp [addr_add, hf]
theorem y_field {s f off m : Nat} {cs vs : List Value} {fs : Array Field} {fd : Field} (hx : ev E x = some (.agg cs.toArray)) (hu : P.underlying s = some (.struct fs)) (hfs : fs[f]? = some fd)
    (ha' : isAggT P fd.type = some true) (hz : szT P fd.type = some m) (hv : (cs.drop fd.offset).take m = vs) : YV P n E W (.field s x f) ty (.agg vs.toArray) := fun a w ha _ d ps af g => by
  simp only [execOp, ha.eval hx, Instr.field, Sem.run_bind, run_underlying hu, Result.andThen_ok, hfs, asAgg, Sem.run_pure, part, run_isAgg ha', run_sizeOf hz, if_true]
  rw [← hv]
  congr 3
  simp [List.extract_eq_take_drop]
theorem y_field1 {s f : Nat} {cs : List Value} {v : Value} {fs : Array Field} {fd : Field} (hx : ev E x = some (.agg cs.toArray)) (hu : P.underlying s = some (.struct fs)) (hfs : fs[f]? = some fd)
    (ha' : isAggT P fd.type = some false) (hv : cs[fd.offset]? = some v) : YV P n E W (.field s x f) ty v := fun a w ha _ d ps af g => by
  simp only [execOp, ha.eval hx, Instr.field, Sem.run_bind, run_underlying hu, Result.andThen_ok, hfs, asAgg, Sem.run_pure, part, run_isAgg ha']
  simp [hv]
theorem y_indexS {e m b off len cap : Nat} {k : IntKind} {i : Int} {r : Nat} (hx : ev E x = some (.slice (some ⟨b, off, none⟩) len cap)) (hy : ev E y = some (.int k i)) (hu : P.underlying t = some (.slice e)) (hz : szT P e = some m)
    (h0 : 0 ≤ i) (h1 : i < len) (hr : off + i.toNat * m = r) : YV P n E W (.indexAddr t x y) ty (.pointer (some ⟨b, r, none⟩)) := fun a w ha _ d ps af g => by
  simp only [execOp, ha.eval hx, ha.eval hy, Instr.indexAt, asIntOf, Sem.run_bind, Sem.run_pure, Result.andThen_ok, run_underlying hu]
  rw [if_pos ⟨h0, h1⟩]
  simp only [Sem.run_bind, run_sizeOf hz, Result.andThen_ok, Sem.run_pure, addr_add, hr]
theorem y_indexA {e m b off len : Nat} {k : IntKind} {i : Int} {r : Nat} (hx : ev E x = some (.pointer (some ⟨b, off, none⟩))) (hy : ev E y = some (.int k i)) (hu : P.underlying t = some (.array len e)) (hz : szT P e = some m)
    (h0 : 0 ≤ i) (h1 : i < len) (hr : off + i.toNat * m = r) : YV P n E W (.indexAddr t x y) ty (.pointer (some ⟨b, r, none⟩)) := fun a w ha _ d ps af g => by
  simp only [execOp, ha.eval hx, ha.eval hy, Instr.indexAt, asIntOf, Sem.run_bind, Sem.run_pure, Result.andThen_ok, run_underlying hu, Instr.sureAddr]
  rw [if_pos ⟨h0, h1⟩]
  simp only [Sem.run_bind, run_sizeOf hz, Result.andThen_ok, Sem.run_pure, addr_add, hr]
theorem y_load {b i : Nat} {l : List Value} {T : TypeId} {fr : Nat × Nat} {v : Value} (hx : ev E x = some (.pointer (some ⟨b, i, none⟩))) (ht : isAggT P t = some false)
    (hs : Sees W b (.cells l.toArray T fr)) (hv : l[i]? = some v) : YV P n E W (.load t x) ty v := fun a w ha hw d ps af g => by
  simp only [execOp, ha.eval hx, Instr.loadAt, Instr.sureAddr, Sem.run_bind, Sem.run_pure, Result.andThen_ok, run_loadVar1 ht (hs w hw) hv]
theorem y_loadA {b i m : Nat} {l vs : List Value} {T : TypeId} {fr : Nat × Nat} (hx : ev E x = some (.pointer (some ⟨b, i, none⟩))) (ht : isAggT P t = some true) (hz : szT P t = some m)
    (hs : Sees W b (.cells l.toArray T fr)) (hm : i + m ≤ l.length) (hv : (l.drop i).take m = vs) : YV P n E W (.load t x) ty (.agg vs.toArray) := fun a w ha hw d ps af g => by
  simp only [execOp, ha.eval hx, Instr.loadAt, Instr.sureAddr, Sem.run_bind, Sem.run_pure, Result.andThen_ok, run_loadVarA ht hz (hs w hw) hm, hv]
end

/-! ### Builtins that only yield -/
section
variable {x y c : Operand} {ty t t2 : Nat}
def callB (b : Builtin) (args : List Operand) (tys : Array TypeId) : Op := .call { callee := .builtin b, args := args.toArray, argTypes := tys }
theorem y_builtin {b : Builtin} {args : List Operand} {tys : Array TypeId} {vs : List Value} {v : Value} (hargs : args.mapM (ev E) = some vs)
    (h : ∀ w, W w → ∀ cs, (builtin b tys ty cs vs.toArray).run P w = .ok (.value v) w) : YV P n E W (.call { callee := .builtin b, args := args.toArray, argTypes := tys }) ty v := fun a w ha hw d ps af g => by
  have e := evals ha hargs
  simp only [execOp, resolve, Sem.run_bind, Sem.run_pure, Result.andThen_ok, invoke, List.map_toArray, e]
  exact h w hw _
theorem y_lenS {p : Option Addr} {l c e : Nat} {tys : Array TypeId} (hx : ev E x = some (.slice p l c)) (h0 : tys[0]? = some t) (hu : P.underlying t = some (.slice e)) :
    YV P n E W (.call { callee := .builtin .len, args := [x].toArray, argTypes := tys }) ty (.int .i64 l) := y_builtin (vs := [.slice p l c]) (by simp [hx]) fun w hw cs => by
  simp only [builtin, Sem.run_bind, Builtin.len_, h0, List.getElem?_toArray, List.getElem?_cons_zero, run_underlying hu, Result.andThen_ok, Sem.run_pure, goInt]
theorem y_capS {p : Option Addr} {l c e : Nat} {tys : Array TypeId} (hx : ev E x = some (.slice p l c)) (h0 : tys[0]? = some t) (hu : P.underlying t = some (.slice e)) :
    YV P n E W (.call { callee := .builtin .cap, args := [x].toArray, argTypes := tys }) ty (.int .i64 c) := y_builtin (vs := [.slice p l c]) (by simp [hx]) fun w hw cs => by
  simp only [builtin, Sem.run_bind, Builtin.cap_, h0, List.getElem?_toArray, List.getElem?_cons_zero, run_underlying hu, Result.andThen_ok, Sem.run_pure, goInt]
theorem y_lenM {r : Nat} {kt et : Nat} {es : Array MapEntry} {ck : Nat} {tys : Array TypeId} (hx : ev E x = some (.map (some r))) (h0 : tys[0]? = some t) (hu : P.underlying t = some (.map kt et)) (hs : Sees W r (.map es ck)) :
    YV P n E W (.call { callee := .builtin .len, args := [x].toArray, argTypes := tys }) ty (.int .i64 es.size) := y_builtin (vs := [.map (some r)]) (by simp [hx]) fun w hw cs => by
  have := hs w hw
  simp only [builtin, Sem.run_bind, Builtin.len_, h0, List.getElem?_toArray, List.getElem?_cons_zero, run_underlying hu, Result.andThen_ok, Sem.run_pure, goInt, getObj, Sem.run, this]
theorem y_min {k : IntKind} {m m' : Int} {tys : Array TypeId} (hx : ev E x = some (.int k m)) (hy : ev E y = some (.int k m')) :
    YV P n E W (.call { callee := .builtin .min, args := [x, y].toArray, argTypes := tys }) ty (.int k (min m m')) := y_builtin (vs := [.int k m, .int k m']) (by simp [hx, hy]) fun w hw cs => by
  simp only [builtin, Sem.run_bind, Builtin.min_, Builtin.min2, List.foldlM_cons, List.foldlM_nil, Result.andThen_ok, Sem.run_pure]
  congr 3
  rw [Int.min_def]
  split <;> split <;> omega
theorem y_max {k : IntKind} {m m' : Int} {tys : Array TypeId} (hx : ev E x = some (.int k m)) (hy : ev E y = some (.int k m')) :
    YV P n E W (.call { callee := .builtin .max, args := [x, y].toArray, argTypes := tys }) ty (.int k (max m m')) := y_builtin (vs := [.int k m, .int k m']) (by simp [hx, hy]) fun w hw cs => by
  simp only [builtin, Sem.run_bind, Builtin.max_, Builtin.max2, List.foldlM_cons, List.foldlM_nil, Result.andThen_ok, Sem.run_pure]
  congr 3
  rw [Int.max_def]
  split <;> split <;> omega
end
end Go.Sl

/- The calculus, fourth part (own work): the operations that make or write memory, and calls. -/
import Derived.Test.YtoaalclbplgegaaSlC
import Derived.Laws.Append
set_option linter.unusedVariables false
set_option linter.unusedSimpArgs false
namespace Go.Sl
open Go.RowKit (Below)
variable {P : Program} {n : FN} {w0 : World} {Q : Post} {E E' : Env} {H H' HS : Hp} {W : World → Prop} {K : Env → Hp → Prop}
variable {d : Option Nat} {ty t : Nat} {ps : String} {af : Array Edge} {g : Option (Nat × Bool)} {x y : Operand}

theorem op_run {o : Oper} (hd : dok o.dst n = true) (h : ∀ a w, FrOk n E a → St w0 w H → ∃ v w' H', (execOp a.eval o).run P w = .ok (.value v) w' ∧ St w0 w' H' ∧ K (put E o.dst v) H') :
    OpW P n w0 Q o E H K := fun a w ha hw next hn => by
  obtain ⟨v, w', H', hr, s, k⟩ := h a w ha hw
  unfold Oper.wp
  rw [hr]
  exact hn _ _ _ _ (ha.put hd v) s k
theorem op_runs {o : Oper} (hd : dok o.dst n = true) (h : ∀ a w, FrOk n E a → St w0 w H → ∃ w' H', (execOp a.eval o).run P w = .ok .skip w' ∧ St w0 w' H' ∧ K (put E o.dst undef) H') :
    OpW P n w0 Q o E H K := fun a w ha hw next hn => by
  obtain ⟨w', H', hr, s, k⟩ := h a w ha hw
  unfold Oper.wp
  rw [hr]
  exact hn _ _ _ _ (ha.put hd undef) s k
theorem op_mono {o : Oper} {K' : Env → Hp → Prop} (h : OpW P n w0 Q o E H K') (hk : ∀ E H, K' E H → K E H) : OpW P n w0 Q o E H K :=
  fun a w ha hw next hn => h a w ha hw next fun E' H' a' w' x s k => hn E' H' a' w' x s (hk _ _ k)
theorem op_y {o : Oper} {v : Value} (hy : YV P n E (fun w => St w0 w H) o.op o.type v) (hd : dok o.dst n = true) (k : K (put E o.dst v) H) : OpW P n w0 Q o E H K :=
  op_run hd fun a w ha hw => ⟨v, w, H, hy a w ha hw o.dst o.pos o.after o.guard, hw, k⟩

/-! ### New blocks -/
theorem op_alloc {zl : List Value} (hz : zeroL P t = some zl) (hd : dok d n = true) (k : ∀ b, K (put E d (.pointer (some ⟨b, 0, none⟩))) ([(b, .cells zl.toArray t)] :: H)) :
    OpW P n w0 Q ⟨d, .alloc t, ty, ps, af, g⟩ E H K := op_run hd fun a w ha hw => by
  obtain ⟨v, hv, hl⟩ := zeroT_of_L hz
  refine ⟨.pointer (some ⟨w.heap.size, 0, none⟩), w.alloc (.cells zl.toArray t), _, ?_, hw.alloc _, k _⟩
  have hc : v.cells = zl.toArray := by rw [← hl]
  simp only [execOp, Instr.alloc, Sem.run_bind, run_zeroValue hv, Result.andThen_ok, newVar, newRow, run_newObj, Sem.run_pure, hc]
  rfl
theorem op_box {v : Value} {l : List Value} (hx : ev E x = some v) (hc : v.cells = l.toArray) (hd : dok d n = true) (k : ∀ b, K (put E d (.pointer (some ⟨b, 0, none⟩))) ([(b, .cells l.toArray t)] :: H)) :
    OpW P n w0 Q ⟨d, .box t x, ty, ps, af, g⟩ E H K := op_run hd fun a w ha hw => by
  refine ⟨.pointer (some ⟨w.heap.size, 0, none⟩), w.alloc (.cells l.toArray t), _, ?_, hw.alloc _, k _⟩
  simp only [execOp, ha.eval hx, Instr.box, Sem.run_bind, Result.andThen_ok, newVar, newRow, run_newObj, Sem.run_pure, hc]
  rfl

/-! ### Stores -/
def one (v : Value) : Bool := v.oneCell'
def spl : List Value → Nat → List Value → List Value
  | l, _, [] => l
  | l, i, v :: vs => spl (l.set i v) (i + 1) vs
theorem spl_length : ∀ (vs l : List Value) (i : Nat), (spl l i vs).length = l.length
  | [], _, _ => rfl
  | v :: vs, l, i => by simp [spl, spl_length vs]
theorem spl_eq : ∀ (vs l : List Value) (i : Nat), i + vs.length ≤ l.length → spl l i vs = l.take i ++ vs ++ l.drop (i + vs.length)
  | [], l, i, h => by simp [spl]
  | v :: vs, l, i, h => by
    simp only [List.length_cons] at h
    have ih := spl_eq vs (l.set i v) (i + 1) (by simp; omega)
    simp only [spl, ih]
    have h1 : (l.set i v).take (i + 1) = l.take i ++ [v] := by
      apply List.ext_getElem?
      intro j
      by_cases hj : j < i
      · rw [List.getElem?_take_of_lt (by omega), List.getElem?_set_ne (by omega), List.getElem?_append_left (by simp; omega), List.getElem?_take_of_lt hj]
      · by_cases hj2 : j = i
        · subst hj2; rw [List.getElem?_take_of_lt (by omega), List.getElem?_set_self (by omega), List.getElem?_append_right (by simp; omega), show j - (l.take j).length = 0 by simp; omega]; rfl
        · rw [List.getElem?_eq_none (by simp; omega), List.getElem?_eq_none (by simp; omega)]
    have h2 : (l.set i v).drop (i + 1 + vs.length) = l.drop (i + (vs.length + 1)) := by
      apply List.ext_getElem?
      intro j
      simp only [List.getElem?_drop]
      rw [List.getElem?_set_ne (by omega)]
      congr 1
      omega
    rw [h1, h2]
    simp
theorem setCell_putB {w : World} {b i : Nat} {l : List Value} {T : TypeId} (h : w.heap[b]? = some (.cells l.toArray T (0, 0))) (v : Value) :
    w.setCell ⟨b, i, none⟩ v = putB w b (.cells (l.set i v).toArray T (0, 0)) := by
  unfold World.setCell putB
  congr 1
  apply Array.ext_getElem?
  intro j
  rw [Array.getElem?_modify, Array.getElem?_setIfInBounds]
  obtain ⟨hlt, h'⟩ := Array.getElem?_eq_some_iff.1 h
  by_cases e : b = j
  · subst e; simp [hlt, h']
  · simp [e]
theorem putB_putB (w : World) (b : Nat) (o o' : Obj) : putB (putB w b o) b o' = putB w b o' := by
  unfold putB
  simp
theorem frozen_none {w : World} {b i : Nat} {c : Array Value} {T : TypeId} (h : w.heap[b]? = some (.cells c T (0, 0))) : w.frozen? ⟨b, i, none⟩ = false := by
  simp [World.frozen?, h]
theorem run_storeCells : ∀ (vs l : List Value) (w : World) (b i off : Nat) (T : TypeId), w.heap[b]? = some (.cells l.toArray T (0, 0)) → (∀ v ∈ vs, one v = true) → off + i + vs.length ≤ l.length →
    ∃ w', (storeCells ⟨b, off, none⟩ vs i).run P w = .ok () w' ∧ ((vs = [] ∧ w' = w) ∨ w' = putB w b (.cells (spl l (off + i) vs).toArray T (0, 0)))
  | [], l, w, b, i, off, T, h, _, _ => ⟨w, rfl, .inl ⟨rfl, rfl⟩⟩
  | v :: vs, l, w, b, i, off, T, h, ho, hlen => by
    simp only [List.length_cons] at hlen
    have hc : w.cell? ⟨b, off + i, none⟩ = some (l[off + i]'(by omega)) := by rw [cell_of_block h]; exact List.getElem?_eq_getElem _
    have hs : (store ((⟨b, off, none⟩ : Addr).add i) v).run P w = .ok () (putB w b (.cells (l.set (off + i) v).toArray T (0, 0))) := by
      rw [addr_add, run_store P w _ v _ (ho v (by simp)), hc]
      simp only [frozen_none h, Bool.false_eq_true, if_false]
      rw [setCell_putB h]
    obtain ⟨w', hw', hr⟩ := run_storeCells vs (l.set (off + i) v) (putB w b (.cells (l.set (off + i) v).toArray T (0, 0))) b (i + 1) off T (putB_same h) (fun u hu => ho u (by simp [hu])) (by simp; omega)
    refine ⟨w', ?_, .inr ?_⟩
    · unfold storeCells
      rw [Sem.run_bind, hs]
      exact hw'
    · rcases hr with ⟨e, rfl⟩ | rfl
      · subst e; rfl
      · rw [putB_putB]; simp only [spl]; rw [show off + (i + 1) = off + i + 1 by omega]
theorem putB_self {w : World} {b : Nat} {o : Obj} (h : w.heap[b]? = some o) : putB w b o = w := by
  unfold putB
  have : w.heap.setIfInBounds b o = w.heap := by
    apply Array.ext_getElem?
    intro j
    rw [Array.getElem?_setIfInBounds]
    have hlt : b < w.heap.size := (Array.getElem?_eq_some_iff.1 h).1
    by_cases e : b = j
    · subst e; simp [hlt, ← h]
    · simp [e]
  rw [this]
theorem run_storeCells' {vs l : List Value} {w : World} {b off : Nat} {T : TypeId} (h : w.heap[b]? = some (.cells l.toArray T (0, 0))) (ho : ∀ v ∈ vs, one v = true) (hlen : off + vs.length ≤ l.length) :
    (storeCells ⟨b, off, none⟩ vs).run P w = .ok () (putB w b (.cells (spl l off vs).toArray T (0, 0))) := by
  obtain ⟨w', h1, h2⟩ := run_storeCells (P := P) vs l w b 0 off T h ho (by omega)
  rw [h1]
  rcases h2 with ⟨e, rfl⟩ | rfl
  · subst e; rw [show spl l off [] = l from rfl, putB_self h]
  · simp
theorem run_storeVar {w : World} {b i m : Nat} {v : Value} {vs l : List Value} {T : TypeId} (hv : v.cells = vs.toArray) (hz : szT P t = some m) (hm : vs.length = m)
    (h : w.heap[b]? = some (.cells l.toArray T (0, 0))) (ho : ∀ v ∈ vs, one v = true) (hlen : i + m ≤ l.length) :
    (storeVar t ⟨b, i, none⟩ v).run P w = .ok () (putB w b (.cells (spl l i vs).toArray T (0, 0))) := by
  have hne : ¬ (v.cells.size ≠ m) := by simp [hv, hm]
  simp only [storeVar, Sem.run_bind, run_sizeOf hz, Result.andThen_ok]
  simp only [hne, if_false, Sem.run_bind, Sem.run_pure, Result.andThen_ok, hv]
  rw [if_neg (by simpa using hm)]
  refine run_storeCells' h ho ?_
  omega
theorem op_store {b i m : Nat} {v : Value} {vs l : List Value} {T : TypeId} (s j : Nat) (hx : ev E x = some (.pointer (some ⟨b, i, none⟩))) (hy : ev E y = some v) (hv : v.cells = vs.toArray) (hz : szT P t = some m) (hm : vs.length = m)
    (hH : getH H s j = some (b, .cells l.toArray T)) (ho : ∀ v ∈ vs, one v = true) (hlen : i + m ≤ l.length) (k : K E (setH H s j (.cells (spl l i vs).toArray T))) :
    OpW P n w0 Q ⟨none, .store t x y, ty, ps, af, g⟩ E H K := op_runs rfl fun a w ha hw => by
  have h : w.heap[b]? = some (.cells l.toArray T (0, 0)) := hw.has _ (getH_mem hH)
  refine ⟨_, _, ?_, hw.putB hH _, k⟩
  simp only [execOp, ha.eval hx, ha.eval hy, Instr.storeAt, Instr.sureAddr, Sem.run_bind, Sem.run_pure, Result.andThen_ok, run_storeVar hv hz hm h ho hlen]
/-- One cell. -/
theorem op_store1 {b i : Nat} {v : Value} {l : List Value} {T : TypeId} (s j : Nat) (hx : ev E x = some (.pointer (some ⟨b, i, none⟩))) (hy : ev E y = some v) (hv : one v = true) (hz : szT P t = some 1)
    (hH : getH H s j = some (b, .cells l.toArray T)) (hlen : i < l.length) (k : K E (setH H s j (.cells (l.set i v).toArray T))) :
    OpW P n w0 Q ⟨none, .store t x y, ty, ps, af, g⟩ E H K :=
  op_store (vs := [v]) s j hx hy (by cases v <;> first | rfl | (simp [one, Value.oneCell'] at hv)) hz rfl hH (by simpa using hv) (by omega) k

/-! ### Slices -/
def zcells (zl : List Value) (c : Nat) : List Value := (List.replicate c zl).flatten
theorem zcells_length (zl : List Value) (c : Nat) : (zcells zl c).length = c * zl.length := by simp [zcells]
theorem zcells_get (zl : List Value) : ∀ (c i : Nat), i < c * zl.length → (zcells zl c)[i]? = zl[i % zl.length]?
  | 0, i, h => by omega
  | c + 1, i, h => by
    have e : zcells zl (c + 1) = zl ++ zcells zl c := by simp [zcells, List.replicate_succ]
    rw [e]
    by_cases hi : i < zl.length
    · rw [List.getElem?_append_left hi, Nat.mod_eq_of_lt hi]
    · rw [List.getElem?_append_right (by omega)]
      rw [Nat.add_mul, Nat.one_mul] at h
      rw [zcells_get zl c (i - zl.length) (by omega)]
      congr 1
      exact (Nat.mod_eq_sub_mod (by omega)).symm
theorem rangeCells (zl : List Value) (c : Nat) : ((Array.range (c * zl.length)).map (zl.toArray[· % zl.toArray.size]!)) = (zcells zl c).toArray := by
  apply Array.ext_getElem?
  intro i
  by_cases hi : i < c * zl.length
  · have hpos : 0 < zl.length := by rcases Nat.eq_zero_or_pos zl.length with h | h <;> simp_all
    have hm : i % zl.length < zl.length := Nat.mod_lt _ hpos
    simp [hi, zcells_get zl c i hi, hm]
  · rw [Array.getElem?_eq_none (by simp; omega), Array.getElem?_eq_none (by simp [zcells_length]; omega)]
theorem op_makeSlice {e m bs : Nat} {zl : List Value} {len : Int} (hx : ev E x = some (.int .i64 len)) (hu : P.underlying t = some (.slice e)) (hb : byT P e = some bs) (hz : szT P e = some m) (hzl : zeroL P e = some zl) (hl : zl.length = m)
    (h0 : 0 ≤ len) (hr : bs * len ≤ 281474976710656) (h63 : len ≤ 9223372036854775807) (hd : dok d n = true) (k : ∀ b, K (put E d (.slice (some ⟨b, 0, none⟩) len.toNat len.toNat)) ([(b, .cells (zcells zl len.toNat).toArray e)] :: H)) :
    OpW P n w0 Q ⟨d, .makeSlice t x x, ty, ps, af, g⟩ E H K := op_run hd fun a w ha hw => by
  obtain ⟨v, hv, hlv⟩ := zeroT_of_L hzl
  obtain ⟨i, hi, hib⟩ := run_bytes hb w
  have hw64 : IntKind.i64.wrap len = len := by rw [IntKind.wrap_i64]; omega
  refine ⟨.slice (some ⟨w.heap.size, 0, none⟩) len.toNat len.toNat, w.alloc (.cells (zcells zl len.toNat).toArray e), _, ?_, hw.alloc _, k _⟩
  have hc : v.cells = zl.toArray := by rw [← hlv]
  have hcells : ((Array.range (len.toNat * m)).map (v.cells[· % v.cells.size]!)) = (zcells zl len.toNat).toArray := by rw [← hl, hc]; exact rangeCells zl len.toNat
  have t1 : (decide (len < 0)) = false := by simp; omega
  have t2 : ¬ ((2 : Int) ^ 48 < (i.bytes : Int) * len) := by rw [hib]; omega
  simp only [execOp, ha.eval hx, Instr.makeSlice, asInt, asIntOf, Sem.run_bind, Sem.run_pure, Result.andThen_ok, run_underlying hu, hi, hw64]
  simp only [t1, t2, gt_iff_lt, Bool.false_or, decide_false, Int.lt_irrefl, Bool.or_self, Bool.false_eq_true, if_false, Sem.run_bind, Sem.run_pure, Result.andThen_ok, run_askRoom, run_sizeOf hz]
  by_cases hn : len.toNat * m = 0
  · have hz0 : zcells zl len.toNat = [] := List.eq_nil_of_length_eq_zero (by rw [zcells_length, hl, hn])
    simp only [hn, if_true, Sem.run_pure, Result.andThen_ok, newRow, Sem.run_bind, run_newObj, hz0, show Array.range 0 = #[] from rfl, Array.map_empty]
    rfl
  · simp only [hn, if_false, Sem.run_bind, run_zeroValue hv, Sem.run_pure, Result.andThen_ok, newRow, run_newObj, hcells]
    rfl
theorem op_buildSlice {e m len : Nat} {parts : List (Nat × Operand)} {vs : List (Nat × Value)} {zl l : List Value} (hp : parts.map (fun p => (p.1, ev E p.2)) = vs.map fun p => (p.1, some p.2)) (hu : P.underlying t = some (.slice e)) (hz : szT P e = some m)
    (hzl : zeroL P e = some zl) (hl : zl.length = m) (hm : len * m ≤ 16777216) (hf : Instr.fill (fun i => some (i * m, m)) (zcells zl len).toArray vs = some l.toArray) (hd : dok d n = true)
    (k : ∀ b, K (put E d (.slice (some ⟨b, 0, none⟩) len len)) ([(b, .cells l.toArray e)] :: H)) :
    OpW P n w0 Q ⟨d, .buildSlice t len parts.toArray, ty, ps, af, g⟩ E H K := op_run hd fun a w ha hw => by
  obtain ⟨v, hv, hlv⟩ := zeroT_of_L hzl
  refine ⟨.slice (some ⟨w.heap.size, 0, none⟩) len len, w.alloc (.cells l.toArray e), _, ?_, hw.alloc _, k _⟩
  have hparts : (parts.map fun (i, x) => (i, a.eval x)) = vs := by
    clear hf
    induction parts generalizing vs with
    | nil => cases vs with
      | nil => rfl
      | cons _ _ => simp at hp
    | cons p parts ih => cases vs with
      | nil => simp at hp
      | cons q vs =>
        simp only [List.map_cons, List.cons.injEq, Prod.mk.injEq] at hp
        simp only [List.map_cons, List.cons.injEq]
        exact ⟨by rw [ha.eval hp.1.2, hp.1.1], ih hp.2⟩
  have hc : v.cells = zl.toArray := by rw [← hlv]
  have hcells : ((Array.range (len * m)).map (v.cells[· % v.cells.size]!)) = (zcells zl len).toArray := by rw [← hl, hc]; exact rangeCells zl len
  have t1 : ¬ (16777216 < len * m) := by omega
  simp only [execOp, Instr.buildSlice, Sem.run_bind, run_underlying hu, Result.andThen_ok, run_sizeOf hz, List.map_toArray, hparts]
  simp only [show (2 : Nat) ^ 24 = 16777216 from rfl, gt_iff_lt, t1, if_false, Sem.run_pure, Result.andThen_ok, Sem.run_bind]
  by_cases hn : len * m = 0
  · have hz0 : zcells zl len = [] := List.eq_nil_of_length_eq_zero (by rw [zcells_length, hl, hn])
    rw [hz0] at hf
    simp only [hn, if_true, Sem.run_pure, Result.andThen_ok, show Array.range 0 = #[] from rfl, Array.map_empty, hf, newRow, Sem.run_bind, run_newObj]
    rfl
  · simp only [hn, if_false, Sem.run_bind, run_zeroValue hv, Sem.run_pure, Result.andThen_ok, hcells, hf, newRow, run_newObj]
    rfl
theorem fold_set : ∀ (vs cells : List Value) (off k : Nat), (vs.zipIdx k).foldl (fun (cs : Array Value) (p : Value × Nat) => cs.setIfInBounds (off + p.2) p.1) cells.toArray = (spl cells (off + k) vs).toArray
  | [], cells, off, k => rfl
  | v :: vs, cells, off, k => by
    simp only [List.zipIdx_cons, List.foldl_cons, List.setIfInBounds_toArray, spl]
    rw [fold_set vs (cells.set (off + k) v) off (k + 1)]
    rfl
theorem fill_cons {place : Nat → Option (Nat × Nat)} {cells vs : List Value} {i off m : Nat} {v : Value} {rest : List (Nat × Value)} {r : Option (Array Value)} (hp : place i = some (off, m)) (hv : v.cells = vs.toArray) (hm : vs.length = m) (hlen : off + m ≤ cells.length)
    (h : Instr.fill place (spl cells off vs).toArray rest = r) : Instr.fill place cells.toArray ((i, v) :: rest) = r := by
  have h1 : (decide (v.cells.size ≠ m) || decide (off + v.cells.size > cells.toArray.size)) = false := by simp [hv, hm]; omega
  have h2 : v.cells.zipIdx.foldl (fun (cs : Array Value) (p : Value × Nat) => cs.setIfInBounds (off + p.2) p.1) cells.toArray = (spl cells off vs).toArray := by
    rw [hv, ← Array.foldl_toList]
    have := fold_set vs cells off 0
    simpa using this
  simp only [Instr.fill, hp, h1]
  rw [← h, ← h2]
  rfl
theorem fill_one {m : Nat} {v : Value} {l zl : List Value} (hv : v.cells = l.toArray) (hl : l.length = m) (hzl : zl.length = m) : Instr.fill (fun i => some (i * m, m)) (zcells zl 1).toArray [(0, v)] = some l.toArray := by
  have e : zcells zl 1 = zl := by simp [zcells]
  rw [e]
  refine fill_cons (off := 0) (vs := l) (by simp) hv hl (by omega) ?_
  rw [spl_eq l zl 0 (by omega)]
  simp [Instr.fill]
  omega

/-! ### Calls -/
theorem op_call {f : Nat} {ce : Operand} {args : List Operand} {vs first cap : List Value} {tys : Array TypeId} (hf : ev E ce = some (.func (.func f) first.toArray cap.toArray)) (hargs : args.mapM (ev E) = some vs)
    (hc : ∀ args w, (callFunc f args).run P w = .ok (.enter f args) w) (hd : dok d n = true)
    (h : FnS P w0 f (first ++ vs ++ cap).toArray H fun e H' => ∃ v, e = .returned v ∧ K (put E d v) H') :
    OpW P n w0 Q ⟨d, .call { callee := .value ce, args := args.toArray, argTypes := tys }, ty, ps, af, g⟩ E H K := fun a w ha hw next hn => by
  unfold Oper.wp
  have e1 := evals ha hargs
  have e2 := ha.eval hf
  have hr : (execOp a.eval ⟨d, .call { callee := .value ce, args := args.toArray, argTypes := tys }, ty, ps, af, g⟩).run P w = .ok (.enter f (first ++ vs ++ cap).toArray) w := by
    simp only [execOp, resolve, Sem.run_bind, e2, Deferred.ofValue, Sem.run_pure, Result.andThen_ok, invoke, List.map_toArray, e1, hc]
    simp
  rw [hr]
  refine (h w hw).mono ?_
  rintro e w' ⟨H', s, v, rfl, k⟩
  exact hn _ _ _ _ (ha.put hd v) s k
end Go.Sl

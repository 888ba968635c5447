/- The calculus, second part (own work): lists of operations, regions that draw their order, and the operations that only yield a value. -/
import Derived.Test.YtoaalclbplgegaaSlA
import Derived.Laws.StructEq
import Derived.Laws.Pointers
import Derived.Laws.Small
import Derived.Laws.Cover3
set_option linter.unusedVariables false
set_option linter.unusedSimpArgs false
namespace Go.Sl
open Go.RowKit (Below)
variable {P : Program} {n : FN} {w0 : World} {Q : Post} {E E' : Env} {H H' HS : Hp} {W : World → Prop}

/-! ### Guards -/
def isB : Value → Bool → Bool
  | .bool c, b => bif b then c else !c
  | _, _ => false
def gv (ops : List Oper) (E : Env) (j : Nat) : Option Value := (ops[j]?).bind fun o => o.dst.bind fun d => look E d
def wE (ops : List Oper) (E : Env) : Option (Nat × Bool) → Option Bool
  | none => some true
  | some (j, b) => (gv ops E j).map fun v => isB v b
theorem wanted_of {ops : List Oper} {o : Oper} {c : Bool} (h : wE ops E o.guard = some c) {a : Act} (ha : FrOk n E a) : Region.wanted o (yielded ops.toArray a.tmps) = c := by
  unfold Region.wanted
  cases hg : o.guard with
  | none => rw [hg] at h; simp [wE] at h; simp [h]
  | some p =>
    obtain ⟨j, b⟩ := p
    rw [hg] at h
    simp only [wE, gv, Option.map_eq_some_iff] at h
    obtain ⟨v, hv, hb⟩ := h
    simp only [Option.bind_eq_some_iff] at hv
    obtain ⟨o', ho', d, hd, hl⟩ := hv
    have hk := ha.known d v hl
    simp only [yielded, List.getElem?_toArray, ho', Option.bind_some, hd, hk]
    rw [← hb]
    cases v <;> simp [isB] <;> (rename_i c'; cases b <;> cases c' <;> rfl)

/-! ### Lists -/
theorem L_nil {ops : List Oper} (h : Q .normal E H) : WpL P n w0 ops Q [] E H := fun a w ha hw => wpList_nil ⟨E, H, ⟨ha.defers, fun _ => ha⟩, hw, h⟩
theorem L_weaken {ops l : List Oper} (hE : SubEnv E' E) (hH : HSub H' H) (h : WpL P n w0 ops Q l E' H') : WpL P n w0 ops Q l E H :=
  fun a w ha hw => h a w (ha.weaken hE) (hH w0 w hw)
theorem L_y {ops rest : List Oper} {d : Option Nat} {op : Op} {ty : Nat} {ps : String} {af : Array Edge} {g : Option (Nat × Bool)} {v : Value}
    (hg : wE ops E g = some true) (hy : YV P n E (fun w => St w0 w H) op ty v) (hd : dok d n = true) (k : WpL P n w0 ops Q rest (put E d v) H) :
    WpL P n w0 ops Q (⟨d, op, ty, ps, af, g⟩ :: rest) E H := fun a w ha hw => by
  unfold wpList
  rw [if_pos (wanted_of (o := ⟨d, op, ty, ps, af, g⟩) hg ha)]
  refine .inl ?_
  unfold Oper.wp
  rw [hy a w ha hw d ps af g]
  exact k _ _ (ha.put hd v) hw
theorem L_op {ops rest : List Oper} {o : Oper} (hg : wE ops E o.guard = some true) (h : OpW P n w0 Q o E H (fun E' H' => WpL P n w0 ops Q rest E' H')) :
    WpL P n w0 ops Q (o :: rest) E H := fun a w ha hw => by
  unfold wpList
  rw [if_pos (wanted_of hg ha)]
  exact .inl (h a w ha hw _ fun E' H' a' w' x s k => k a' w' x s)
theorem L_skip {ops rest : List Oper} {o : Oper} (hg : wE ops E o.guard = some false) (hd : dok o.dst n = true) (k : WpL P n w0 ops Q rest (put E o.dst undef) H) :
    WpL P n w0 ops Q (o :: rest) E H := fun a w ha hw => by
  unfold wpList
  rw [if_neg (by rw [wanted_of hg ha]; simp)]
  exact k _ _ (ha.put hd undef) hw
/-- A slot's truth is asked. -/
theorem L_case {ops l : List Oper} (t : Nat) {b : Bool} (h : look E t = some (.bool b)) (ht : b = true → WpL P n w0 ops Q l ((t, .bool true) :: E) H)
    (hf : b = false → WpL P n w0 ops Q l ((t, .bool false) :: E) H) : WpL P n w0 ops Q l E H := by
  cases b with
  | true => exact fun a w ha hw => ht rfl a w (frOk_same ha h) hw
  | false => exact fun a w ha hw => hf rfl a w (frOk_same ha h) hw

/-! ### Regions -/
theorem C_region {id : Nat} {l : List Oper} (h : WpL P n w0 l Q l E H) : WpC P n w0 (.region id l.toArray false) Q E H :=
  fun a w ha hw => wp_region_lit (h a w ha hw)

/-- Behind the draw, operations that only yield; then the tail, in its order. -/
def WpS (P : Program) (n : FN) (w0 : World) (ops : List Oper) (Q : Post) (tail l : List Oper) (E : Env) (H : Hp) : Prop :=
  ∀ a w, FrOk n E a → St w0 w H → wpStill P ops.toArray w (fun a' => wpList P ops.toArray (lift n w0 Q) tail a' w) l a
theorem C_regionT {id : Nat} {l : List Oper} (m : Nat) (hm : P.follows .mixedOrders = true) (hB : Region.lexTailB .any l.toArray m = true)
    (h : WpS P n w0 l Q (l.drop m) (l.take m) E H) : WpC P n w0 (.region id l.toArray true) Q E H :=
  fun a w ha hw => wp_region_still_tail m hm hB (h a _ ha (hw.drawn _))
theorem S_nil {ops tail : List Oper} (h : WpL P n w0 ops Q tail E H) : WpS P n w0 ops Q tail [] E H := fun a w ha hw => h a w ha hw
theorem S_y {ops tail rest : List Oper} {d : Option Nat} {op : Op} {ty : Nat} {ps : String} {af : Array Edge} {g : Option (Nat × Bool)} {v : Value}
    (hg : wE ops E g = some true) (hy : YV P n E (fun w => St w0 w H) op ty v) (hd : dok d n = true) (k : WpS P n w0 ops Q tail rest (put E d v) H) :
    WpS P n w0 ops Q tail (⟨d, op, ty, ps, af, g⟩ :: rest) E H := fun a w ha hw => by
  unfold wpStill
  rw [if_pos (wanted_of (o := ⟨d, op, ty, ps, af, g⟩) hg ha)]
  unfold Oper.still
  rw [hy a w ha hw d ps af g]
  exact ⟨rfl, k _ _ (ha.put hd v) hw⟩
theorem S_skip {ops tail rest : List Oper} {o : Oper} (hg : wE ops E o.guard = some false) (hd : dok o.dst n = true) (k : WpS P n w0 ops Q tail rest (put E o.dst undef) H) :
    WpS P n w0 ops Q tail (o :: rest) E H := fun a w ha hw => by
  unfold wpStill
  rw [if_neg (by rw [wanted_of hg ha]; simp)]
  exact k _ _ (ha.put hd undef) hw
theorem S_case {ops tail l : List Oper} (t : Nat) {b : Bool} (h : look E t = some (.bool b)) (ht : b = true → WpS P n w0 ops Q tail l ((t, .bool true) :: E) H)
    (hf : b = false → WpS P n w0 ops Q tail l ((t, .bool false) :: E) H) : WpS P n w0 ops Q tail l E H := by
  cases b with
  | true => exact fun a w ha hw => ht rfl a w (frOk_same ha h) hw
  | false => exact fun a w ha hw => hf rfl a w (frOk_same ha h) hw

/-- Whatever order is drawn; what is known throughout is HS. -/
def WpH (P : Program) (n : FN) (w0 : World) (ops : List Oper) (Q : Post) (HS : Hp) (fuel : Nat) (listed : List Bool) (E : Env) (H : Hp) : Prop :=
  ∀ a w, FrOk n E a → St w0 w H → wpAnyH P .any ops.toArray (lift n w0 Q) (fun w => St w0 w HS) fuel listed.toArray a w
theorem C_regionH {id : Nat} {l : List Oper} (HS : Hp) (hm : P.follows .mixedOrders = true) (h : WpH P n w0 l Q HS l.length (List.replicate l.length false) E H) :
    WpC P n w0 (.region id l.toArray true) Q E H := fun a w ha hw => by
  refine wp_region_held (S := fun w => St w0 w HS) hm ?_
  have := h a _ ha (hw.drawn (w.drawn + 1))
  simpa using this
theorem C_regionH0 {id : Nat} {l : List Oper} (hm : P.follows .mixedOrders = true) (h : WpH P n w0 l Q H l.length (List.replicate l.length false) E H) :
    WpC P n w0 (.region id l.toArray true) Q E H := C_regionH H hm h
theorem lift_put {d : Option Nat} {v : Value} : ∀ (c : List PanicEntry) (a : Act) (w : World), lift n w0 Q (.panic c) (a.put d v) w → lift n w0 Q (.panic c) a w :=
  fun c a w ⟨E, H, x, s, q⟩ => ⟨E, H, ⟨by cases d <;> exact x.1, (fun h => by cases h)⟩, s, q⟩
theorem H_y {ops : List Oper} {fuel : Nat} {listed : List Bool} (i : Nat) {d : Option Nat} {op : Op} {ty : Nat} {ps : String} {af : Array Edge} {g : Option (Nat × Bool)} {v : Value}
    (hi : ops[i]? = some ⟨d, op, ty, ps, af, g⟩) (hs : Region.noSelect ops.toArray = true) (hf : Region.free .any ops.toArray listed.toArray i = true)
    (hr : (Region.ready .any ops.toArray listed.toArray).contains i = true) (hS : HSub HS H)
    (hg : wE ops E g = some true) (hy : YV P n E (fun w => St w0 w HS) op ty v) (hd : dok d n = true)
    (k : WpH P n w0 ops Q HS fuel (listed.set i true) (put E d v) H) : WpH P n w0 ops Q HS (fuel + 1) listed E H := fun a w ha hw => by
  refine wpAnyH_take (i := i) (oi := ⟨d, op, ty, ps, af, g⟩) (v := v) (by simpa using hi) hs hf hr lift_put (.inl ⟨wanted_of (o := ⟨d, op, ty, ps, af, g⟩) hg ha, fun w' hw' => hy a w' ha hw' d ps af g⟩) (hS w0 w hw) ?_
  have := k _ _ (ha.put hd v) hw
  simpa using this
theorem H_skip {ops : List Oper} {fuel : Nat} {listed : List Bool} (i : Nat) {o : Oper} (hi : ops[i]? = some o) (hs : Region.noSelect ops.toArray = true) (hf : Region.free .any ops.toArray listed.toArray i = true)
    (hr : (Region.ready .any ops.toArray listed.toArray).contains i = true) (hS : HSub HS H)
    (hg : wE ops E o.guard = some false) (hd : dok o.dst n = true)
    (k : WpH P n w0 ops Q HS fuel (listed.set i true) (put E o.dst undef) H) : WpH P n w0 ops Q HS (fuel + 1) listed E H := fun a w ha hw => by
  refine wpAnyH_take (i := i) (oi := o) (v := undef) (by simpa using hi) hs hf hr lift_put (.inr ⟨wanted_of hg ha, rfl⟩) (hS w0 w hw) ?_
  have := k _ _ (ha.put hd undef) hw
  simpa using this
theorem wpOp_of_OpW {ops : List Oper} {fuel : Nat} {listed : List Bool} {i : Nat} {o : Oper} (hi : ops[i]? = some o) (hg : wE ops E o.guard = some true)
    (h : OpW P n w0 Q o E H (fun E' H' => HSub HS H' ∧ WpH P n w0 ops Q HS fuel (listed.set i true) E' H')) {a : Act} {w : World} (ha : FrOk n E a) (hw : St w0 w H) :
    wpOp P ops.toArray (lift n w0 Q) i (fun a' w' => St w0 w' HS ∧ wpAnyH P .any ops.toArray (lift n w0 Q) (fun w => St w0 w HS) fuel (listed.toArray.setIfInBounds i true) a' w') a w := by
  unfold wpOp
  rw [show ops.toArray[i]? = some o by simpa using hi]
  simp only
  rw [if_pos (wanted_of hg ha)]
  refine .inl (h a w ha hw _ fun E' H' a' w' x s k => ⟨k.1 w0 w' s, ?_⟩)
  have := k.2 a' w' x s
  simpa using this
/-- One loud operation alone may come up. -/
theorem H_one {ops : List Oper} {fuel : Nat} {listed : List Bool} (i : Nat) {o : Oper} (hi : ops[i]? = some o) (hr : Region.ready .any ops.toArray listed.toArray = [i])
    (hg : wE ops E o.guard = some true) (h : OpW P n w0 Q o E H (fun E' H' => HSub HS H' ∧ WpH P n w0 ops Q HS fuel (listed.set i true) E' H')) :
    WpH P n w0 ops Q HS (fuel + 1) listed E H := fun a w ha hw =>
  wpAnyH_all hr (by simp) fun j hj => by simp at hj; subst hj; exact wpOp_of_OpW hi hg h ha hw
/-- Two may. -/
theorem H_two {ops : List Oper} {fuel : Nat} {listed : List Bool} (i j : Nat) {o o' : Oper} (hi : ops[i]? = some o) (hj : ops[j]? = some o') (hr : Region.ready .any ops.toArray listed.toArray = [i, j])
    (hg : wE ops E o.guard = some true) (hg' : wE ops E o'.guard = some true)
    (h : OpW P n w0 Q o E H (fun E' H' => HSub HS H' ∧ WpH P n w0 ops Q HS fuel (listed.set i true) E' H'))
    (h' : OpW P n w0 Q o' E H (fun E' H' => HSub HS H' ∧ WpH P n w0 ops Q HS fuel (listed.set j true) E' H')) :
    WpH P n w0 ops Q HS (fuel + 1) listed E H := fun a w ha hw =>
  wpAnyH_all hr (by simp) fun k hk => by
    simp at hk
    rcases hk with rfl | rfl
    · exact wpOp_of_OpW hi hg h ha hw
    · exact wpOp_of_OpW hj hg' h' ha hw
theorem H_done {ops : List Oper} {fuel : Nat} {listed : List Bool} (hr : Region.ready .any ops.toArray listed.toArray = []) (h : Q .normal E H) : WpH P n w0 ops Q HS fuel listed E H :=
  fun a w ha hw => wpAnyH_done hr ⟨E, H, ⟨ha.defers, fun _ => ha⟩, hw, h⟩ fuel
theorem H_case {ops : List Oper} {fuel : Nat} {listed : List Bool} (t : Nat) {b : Bool} (h : look E t = some (.bool b)) (ht : b = true → WpH P n w0 ops Q HS fuel listed ((t, .bool true) :: E) H)
    (hf : b = false → WpH P n w0 ops Q HS fuel listed ((t, .bool false) :: E) H) : WpH P n w0 ops Q HS fuel listed E H := by
  cases b with
  | true => exact fun a w ha hw => ht rfl a w (frOk_same ha h) hw
  | false => exact fun a w ha hw => hf rfl a w (frOk_same ha h) hw

/-! ### Functions -/
def args0 : List Value → Nat → Env
  | [], _ => []
  | v :: vs, i => (i, v) :: args0 vs (i + 1)
theorem look_args0 : ∀ (vs : List Value) (i t : Nat) (v : Value), look (args0 vs i) t = some v → i ≤ t ∧ vs[t - i]? = some v
  | [], _, _, _, h => by cases h
  | u :: vs, i, t, v, h => by
    simp only [args0] at h
    rw [look_put] at h
    by_cases e : i = t
    · subst e; simp at h; simp [h]
    · rw [if_neg e] at h
      have ⟨h1, h2⟩ := look_args0 vs (i + 1) t v h
      exact ⟨by omega, by rw [show t - i = (t - (i + 1)) + 1 by omega]; simpa using h2⟩
/-- How a body may end. -/
def RV (P : Program) (w0 : World) (E : Env) (H : Hp) : List ResultVar → List Value → Prop
  | [], [] => True
  | .tmp t :: rs, v :: vs => look E t = some v ∧ RV P w0 E H rs vs
  | .cell t ty :: rs, v :: vs => (∃ p, look E t = some (.pointer (some p)) ∧ ∀ w, St w0 w H → (loadVar ty p).run P w = .ok v w) ∧ RV P w0 E H rs vs
  | _, _ => False
def pack : List Value → Value
  | [v] => v
  | vs => .tuple vs.toArray
def BodyQ (P : Program) (w0 : World) (rs : List ResultVar) (R : Ending → Hp → Prop) : Post := fun e E H => match e with
  | .normal | .ret => ∃ vs H', RV P w0 E H rs vs ∧ HSub H' H ∧ R (.returned (pack vs)) H'
  | .panic ch => R (.panicked ch) H
  | _ => False
theorem RV.length : ∀ {rs : List ResultVar} {vs : List Value}, RV P w0 E H rs vs → rs.length = vs.length
  | [], [], _ => rfl
  | .tmp _ :: _, _ :: _, h => by simp [RV.length h.2]
  | .cell _ _ :: _, _ :: _, h => by simp [RV.length h.2]
  | [], _ :: _, h => h.elim
  | .tmp _ :: _, [], h => h.elim
  | .cell _ _ :: _, [], h => h.elim
def resOf (a : Act) : ResultVar → Sem Value
  | .tmp t => pure (a.tmps.getD t undef)
  | .cell q t => do loadVar t (← asAddr (a.tmps.getD q undef))
theorem results_eq (fn : Func) (a : Act) : results fn a.tmps = (do
    let vs ← fn.results.mapM (resOf a)
    pure (if h : vs.size = 1 then vs[0] else .tuple vs)) := by
  unfold results
  congr 1
theorem mapM_RV {a : Act} {w : World} (ha : FrOk n E a) (hw : St w0 w H) : ∀ {rs : List ResultVar} {vs : List Value}, RV P w0 E H rs vs →
    (rs.mapM (resOf a)).run P w = .ok vs w
  | [], [], _ => by simp
  | .tmp t :: rs, v :: vs, h => by
    have e : a.tmps[t]? = some v := ha.known t v h.1
    have ih := mapM_RV ha hw h.2
    simp only [List.mapM_cons, Sem.run_bind, resOf, Sem.run_pure, Result.andThen_ok, ih]
    simp [e]
  | .cell t ty :: rs, v :: vs, h => by
    obtain ⟨p, hp, hl⟩ := h.1
    have e : a.tmps[t]? = some (.pointer (some p)) := ha.known t _ hp
    have ih := mapM_RV ha hw h.2
    have e' : a.tmps.getD t undef = .pointer (some p) := by simp [e]
    have e2 : (resOf a (.cell t ty)).run P w = .ok v w := by
      show (asAddr (a.tmps.getD t undef) >>= fun p => loadVar ty p).run P w = _
      rw [e', Sem.run_bind]
      show ((Sem.run P (pure p) w).andThen fun p w' => (loadVar ty p).run P w') = _
      rw [Sem.run_pure, Result.andThen_ok]
      exact hl w hw
    simp only [List.mapM_cons, Sem.run_bind, e2, Result.andThen_ok, ih, Sem.run_pure]
  | [], _ :: _, h => h.elim
  | .tmp _ :: _, [], h => h.elim
  | .cell _ _ :: _, [], h => h.elim
theorem run_results {fn : Func} {a : Act} {w : World} {vs : List Value} (ha : FrOk n E a) (hw : St w0 w H) (h : RV P w0 E H fn.results.toList vs) :
    (results fn a.tmps).run P w = .ok (pack vs) w := by
  have hm := mapM_RV ha hw h
  have hm' : (fn.results.mapM (resOf a)).run P w = .ok vs.toArray w := by
    rw [Array.mapM_eq_mapM_toList, Sem.run_map, hm]; rfl
  rw [results_eq, Sem.run_bind, hm']
  simp only [Result.andThen_ok, Sem.run_pure]
  congr 1
  match vs with
  | [] => simp [pack]
  | [v] => simp [pack]
  | _ :: _ :: _ => simp [pack]
theorem args_ok {n : Nat} {fn : Func} {vs : List Value} (hn : fn.ntmps = n) (hle : vs.length ≤ n) : FrOk ⟨n, []⟩ (args0 vs 0) { tmps := vs.toArray ++ Array.replicate (fn.ntmps - vs.toArray.size) undef, defers := [] } := by
  refine ⟨rfl, by simp [hn]; omega, fun t v ht => ?_⟩
  have ⟨_, h2⟩ := look_args0 vs 0 t v ht
  have hlt : t < vs.length := by
    rcases Nat.lt_or_ge t vs.length with h | h
    · exact h
    · simp [List.getElem?_eq_none h] at h2
  simp only [Nat.sub_zero] at h2
  rw [Array.getElem?_append_left (by simpa using hlt)]
  simpa using h2
theorem FnS_intro {n : Nat} {f : Nat} {fn : Func} {c : Code} {vs : List Value} {rs : List ResultVar} {R : Ending → Hp → Prop} (hf : P.funcs[f]? = some fn) (hb : fn.body = some c) (hn : fn.ntmps = n) (hr : fn.results.toList = rs)
    (hlen : Nat.ble vs.length n = true) (h : WpC P ⟨n, []⟩ w0 c (BodyQ P w0 rs R) (args0 vs 0) H) : FnS P w0 f vs.toArray H R := by
  intro w hw
  refine calls_of_wp hf hb ?_
  have hle : vs.length ≤ n := Nat.le_of_ble_eq_true hlen
  have ha := args_ok hn hle
  refine wp_mono (h _ w ha hw) ?_
  rintro e a' w' ⟨E', H', x, s, q⟩
  cases e with
  | normal =>
    obtain ⟨vs', H2, hrv, hs, hR⟩ := q
    exact ⟨x.1, _, run_results (x.2 rfl) s (hr ▸ hrv), H2, hs w0 w' s, hR⟩
  | ret =>
    obtain ⟨vs', H2, hrv, hs, hR⟩ := q
    exact ⟨x.1, _, run_results (x.2 rfl) s (hr ▸ hrv), H2, hs w0 w' s, hR⟩
  | panic ch => exact ⟨x.1, H', s, q⟩
  | exit id => exact q.elim
  | goto l => exact q.elim
  | outgrown => exact q.elim
end Go.Sl

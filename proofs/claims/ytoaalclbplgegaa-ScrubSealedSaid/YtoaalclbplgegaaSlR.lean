/- A range over a function: the rounds, the call, the way out (own work, over the kit's laws of the statement). -/
import Derived.Test.YtoaalclbplgegaaSlH
import Derived.RangeFuncRecord
import Derived.RangeFuncSeq
import Derived.TacticsIn
set_option linter.unusedVariables false
set_option linter.unusedSimpArgs false
namespace Go.Sl
variable {P : Program} {n : FN} {w0 : World} {Q : Post} {E E' : Env} {H H' : Hp} {r : Option Nat}
abbrev Fr (r : Option Nat) : Fence := { Fence.wide with round := r }
def WpCI (P : Program) (n : FN) (w0 : World) (r : Option Nat) (c : Code) (Q : Post) (E : Env) (H : Hp) : Prop := ∀ m a w, FrOk n E a → St w0 w H → c.wpIn (Fr r) m P (lift n w0 Q) a w
def WpLI (P : Program) (n : FN) (w0 : World) (r : Option Nat) (ops : List Oper) (Q : Post) (l : List Oper) (E : Env) (H : Hp) : Prop := ∀ m a w, FrOk n E a → St w0 w H → wpListIn (Fr r) m P ops.toArray (lift n w0 Q) l a w
theorem CI_of {c : Code} (h : WpC P n w0 c Q E H) : WpCI P n w0 none c Q E H := fun m a w ha hw => (wpIn_wide (n := m)).2 (h a w ha hw)
theorem C_of {c : Code} (h : WpCI P n w0 none c Q E H) : WpC P n w0 c Q E H := fun a w ha hw => (wpIn_wide (n := 0)).1 (h 0 a w ha hw)
theorem CI_seq {x y : Code} (h : WpCI P n w0 r x (thenQ (WpCI P n w0 r y Q) Q) E H) : WpCI P n w0 r (.seq x y) Q E H := fun m a w ha hw => by
  refine wpIn_seq (wpIn_mono (h m a w ha hw) ?_)
  rintro e a' w' ⟨E', H', x, s, q⟩
  cases e with
  | normal => exact q m a' w' (x.2 rfl) s
  | _ => exact ⟨E', H', x, s, q⟩
theorem CI_block {id : Nat} {c : Code} (h : WpCI P n w0 r c (blockQ id Q) E H) : WpCI P n w0 r (.block id c) Q E H := fun m a w ha hw => by
  refine wpIn_block (wpIn_mono (h m a w ha hw) ?_)
  rintro e a' w' ⟨E', H', x, s, q⟩
  cases e with
  | exit id' =>
    simp only [blockQ] at q
    simp only [Exit.inBlock]
    split
    · rename_i e; rw [if_pos e] at q; exact ⟨E', H', ⟨x.1, fun _ => x.2 rfl⟩, s, q⟩
    · rename_i e; rw [if_neg e] at q; exact ⟨E', H', ⟨x.1, fun _ => x.2 rfl⟩, s, q⟩
  | _ => exact ⟨E', H', x, s, q⟩
theorem CI_cond {c : Operand} {x y : Code} {b : Bool} (hc : ev E c = some (.bool b)) (ht : b = true → WpCI P n w0 r x Q E H) (hf : b = false → WpCI P n w0 r y Q E H) :
    WpCI P n w0 r (.cond c x y) Q E H := fun m a w ha hw => wpIn_cond_split (ha.eval hc) (fun h => ht h m a w ha hw) (fun h => hf h m a w ha hw)
theorem CI_skip (h : Q .normal E H) : WpCI P n w0 r .skip Q E H := fun m a w ha hw => wpIn_skip ⟨E, H, ⟨ha.defers, fun _ => ha⟩, hw, h⟩
theorem CI_ret (h : Q .ret E H) : WpCI P n w0 r .ret Q E H := fun m a w ha hw => wpIn_ret ⟨E, H, ⟨ha.defers, fun _ => ha⟩, hw, h⟩
theorem CI_exit {id : Nat} (h : Q (.exit id) E H) : WpCI P n w0 r (.exit id) Q E H := fun m a w ha hw => wpIn_exit ⟨E, H, ⟨ha.defers, fun _ => ha⟩, hw, h⟩
theorem CI_loop {ι : Type} {c : Code} (Ei : ι → Env) (Hi : ι → Hp) (G : ι → Prop) (μ : ι → Nat) (i0 : ι) (h0 : G i0) (hE : SubEnv (Ei i0) E) (hH : HSub (Hi i0) H)
    (round : ∀ i, G i → WpCI P n w0 r c (thenQ (fun E' H' => ∃ j, G j ∧ μ j < μ i ∧ SubEnv (Ei j) E' ∧ HSub (Hi j) H') Q) (Ei i) (Hi i)) :
    WpCI P n w0 r (.loop c) Q E H := by
  intro m a w ha hw b k cs hro hb hr
  have key : ∀ (x : Nat) (i : ι), G i → μ i = x → ∀ a w, FrOk n (Ei i) a → St w0 w (Hi i) →
      ∃ e a' w', lift n w0 Q e a' w' ∧ ArrivesIn (Machine.fenced P (Fr r)) P (lone (b.atR a (.code c :: .inLoop c :: k)) cs w) b k cs e a' w' := by
    intro x
    induction x using Nat.strongRecOn with
    | _ x ih =>
      intro i gi hm a w ha hw
      obtain ⟨e, a₁, w₁, hq, harr⟩ := round i gi m a w ha hw b (.inLoop c :: k) cs hro hb hr
      obtain ⟨E₁, H₁, f1, s1, q⟩ := hq
      cases e with
      | normal =>
        obtain ⟨j, gj, hlt, hE, hH⟩ := q
        obtain ⟨e₂, a₂, w₂, hq₂, harr₂⟩ := ih (μ j) (hm ▸ hlt) j gj rfl a₁ w₁ ((f1.2 rfl).weaken hE) (hH w0 w₁ s1)
        exact ⟨e₂, a₂, w₂, hq₂, .of_steps (StepsIn.trans harr (.one (fenced_calm hb hr rfl) stepR_inLoop)) harr₂⟩
      | exit id => exact ⟨_, a₁, w₁, ⟨E₁, H₁, f1, s1, q⟩, .pass (x := .inLoop c) rfl (fun _ _ => .inl (by simp)) harr⟩
      | goto l => exact ⟨_, a₁, w₁, ⟨E₁, H₁, f1, s1, q⟩, .pass (x := .inLoop c) rfl (fun _ _ => .inl (by simp)) harr⟩
      | ret => exact ⟨_, a₁, w₁, ⟨E₁, H₁, f1, s1, q⟩, .pass (x := .inLoop c) rfl (fun _ _ => .inl (by simp)) harr⟩
      | panic ch => exact ⟨_, a₁, w₁, ⟨E₁, H₁, f1, s1, q⟩, .pass (x := .inLoop c) rfl (fun _ _ => .inl (by simp)) harr⟩
      | outgrown => exact ⟨_, a₁, w₁, ⟨E₁, H₁, f1, s1, q⟩, .pass (x := .inLoop c) rfl (fun _ _ => .inl (by simp)) harr⟩
  obtain ⟨e, a', w', hq, harr⟩ := key (μ i0) i0 h0 rfl a w (ha.weaken hE) (hH w0 w hw)
  exact ⟨e, a', w', hq, .of_steps (.one (fenced_calm hb hr rfl) stepR_loop) harr⟩
theorem CI_region {id : Nat} {l : List Oper} (h : WpLI P n w0 r l Q l E H) : WpCI P n w0 r (.region id l.toArray false) Q E H := fun m a w ha hw => wpIn_region_lit (h m a w ha hw)
theorem LI_nil {ops : List Oper} (h : Q .normal E H) : WpLI P n w0 r ops Q [] E H := fun m a w ha hw => wpListIn_nil ⟨E, H, ⟨ha.defers, fun _ => ha⟩, hw, h⟩
/-- A contract within the fence. -/
theorem callsIn_fr {m : Nat} {f : FuncId} {args : Array Value} {w : World} {R : Ending → World → Prop} (h : Calls P f args w R) : CallsIn (Fr r) m P f args w R := by
  have h2 : CallsIn Fence.wide m P f args w R := callsIn_wide.2 h
  exact h2
def notDefer : Op → Bool
  | .defer _ => false
  | _ => true
theorem opIn {o : Oper} {a : Act} {w : World} {m : Nat} {next : Act → World → Prop} {Q : Exit → Act → World → Prop} (hd : notDefer o.op = true) (h : o.wp P a w next Q) : o.wpIn (Fr r) m P a w next Q := by
  refine ⟨fun _ _ => trivial, ?_⟩
  have hd' : ∀ c, o.op ≠ .defer c := fun c e => by rw [e] at hd; cases hd
  rw [Oper.semAt_eq _ _ _ hd']
  unfold Oper.wp at h
  generalize (execOp a.eval o).run P w = res at h ⊢
  match res, h with
  | .ok (.value v) w', h => exact h
  | .ok .skip w', h => exact h
  | .ok (.defer d) w', h => exact h
  | .ok (.enter f args) w', h =>
    refine ⟨fun h => Bool.noConfusion (show false = true from h), callsIn_fr (Calls.mono h ?_)⟩
    intro e w'' q
    cases e <;> exact q
  | .ok (.row row args) w', h =>
    refine ⟨fun h => Bool.noConfusion (show false = true from h), fun c cs _ => ?_⟩
    obtain ⟨v, w'', q, s⟩ := h c cs
    refine ⟨v, w'', q, ?_⟩
    cases r with
    | none => exact stepsIn_wide.2 s
    | some l => exact stepsIn_wide.2 s
  | .halt (.panic v) w', h => exact h
theorem LI_op {ops l : List Oper} {o : Oper} (hg : o.guard = none) (hd : notDefer o.op = true) (h : OpW P n w0 Q o E H (fun E' H' => WpLI P n w0 r ops Q l E' H')) : WpLI P n w0 r ops Q (o :: l) E H := fun m a w ha hw =>
  wpListIn_plain hg fun K hK => opIn hd (h a w ha hw K fun E' H' a' w' ha' hw' k => hK a' w' (k m a' w' ha' hw'))
theorem LI_y {ops l : List Oper} {d : Option Nat} {op : Op} {ty : Nat} {ps : String} {af : Array Edge} {v : Value} (hd : notDefer op = true) (hy : YV P n E (fun w => St w0 w H) op ty v) (hk : dok d n = true)
    (k : WpLI P n w0 r ops Q l (put E d v) H) : WpLI P n w0 r ops Q (⟨d, op, ty, ps, af, none⟩ :: l) E H := LI_op rfl hd (op_y hy hk k)
/-- What a call of yield does. -/
def YS (P : Program) (w0 : World) (l : Nat) (args : Array Value) (H : Hp) (R : Ending → Hp → Prop) : Prop :=
  ∀ m w, St w0 w H → YieldAt (Fr none) m P l args w fun e w' => ∃ H', St w0 w' H' ∧ R e H'
theorem LI_yield {ops l : List Oper} {d : Option Nat} {ce : Operand} {args : List Operand} {tys : Array TypeId} {ty : Nat} {ps : String} {af : Array Edge} {y : Nat} {vs : List Value} (hce : ev E ce = some (.func (.yield y) #[] #[])) (hargs : args.mapM (ev E) = some vs) (hk : dok d n = true)
    (h : YS P w0 y vs.toArray H fun e H' => ∃ v, e = .returned v ∧ WpLI P n w0 none ops Q l (put E d v) H') :
    WpLI P n w0 none ops Q (⟨d, .call { callee := .value ce, args := args.toArray, argTypes := tys }, ty, ps, af, none⟩ :: l) E H := fun m a w ha hw => by
  refine wpListIn_plain rfl fun K hK => ⟨fun _ _ => trivial, ?_⟩
  have e1 := evals ha hargs
  have e2 := ha.eval hce
  obtain ⟨fn, tmps, assign, body, hr, hround⟩ := h (m - 1) w hw
  have hrun : (Oper.semAt (Fr none).round a.eval (⟨d, .call { callee := .value ce, args := args.toArray, argTypes := tys }, ty, ps, af, none⟩ : Oper)).run P w = .ok (.round y fn tmps assign body) w := by
    rw [show (Fr none).round = none from rfl, Oper.semAt_none]
    simp only [execOp, resolve, Sem.run_bind, e2, Deferred.ofValue, Sem.run_pure, Result.andThen_ok, invoke, List.map_toArray, e1]
    simpa using hr
  rw [hrun]
  refine ⟨fun h => Bool.noConfusion (show false = true from h), hround.mono ?_⟩
  rintro e w' ⟨H', s, v, rfl, k⟩
  exact hK _ _ (k m _ _ (ha.put hk v) s)
theorem FnSI_intro {k f : Nat} {fn : Func} {c : Code} {vs : List Value} {rs : List ResultVar} {R : Ending → Hp → Prop} (hf : P.funcs[f]? = some fn) (hb : fn.body = some c) (hn : fn.ntmps = k) (hr : fn.results.toList = rs)
    (hlen : Nat.ble vs.length k = true) (h : WpCI P ⟨k, []⟩ w0 none c (BodyQ P w0 rs R) (args0 vs 0) H) : FnS P w0 f vs.toArray H R := FnS_intro hf hb hn hr hlen (C_of h)
/-! ### One round -/
def roundQ (l : Nat) (rc : Loop) (RT : Bool → Hp → Prop) : Post := fun e E H => match e with
  | .normal => ∃ Hr, HSub ([(l, .loop { rc with state := .busy })] :: Hr) H ∧ RT true Hr
  | .ret => ∃ Hr, HSub ([(l, .loop { rc with state := .busy })] :: Hr) H ∧ RT false Hr
  | _ => False
def assignQ (P : Program) (n : FN) (w0 : World) (l : Nat) (rc : Loop) (RT : Bool → Hp → Prop) : Post := fun e E H => match e with
  | .normal => ∃ Hr, HSub ([(l, .loop rc)] :: Hr) H ∧ WpCI P n w0 (some l) rc.body (roundQ l rc RT) E ([(l, .loop { rc with state := .busy })] :: Hr)
  | _ => False
theorem round_s {l : Nat} {rc : Loop} {vs : List Value} {Hr : Hp} {RT : Bool → Hp → Prop} {k : Nat} (hst : rc.state = .ready) (hpe : rc.pending = none) (hlen : vs.length = rc.params.size)
    (hfr : FrOk ⟨k, []⟩ E' { tmps := (rc.params.zip vs.toArray).foldl (fun tmps (t, a) => tmps.setIfInBounds t a) rc.tmps, defers := [] })
    (h : WpCI P ⟨k, []⟩ w0 (some l) rc.assign (assignQ P ⟨k, []⟩ w0 l rc RT) E' ([(l, .loop rc)] :: Hr)) :
    YS P w0 l vs.toArray ([(l, .loop rc)] :: Hr) fun e H' =>
      (e = .returned (.bool true) ∧ ∃ Hx, H' = [(l, .loop rc)] :: Hx ∧ RT true Hx) ∨ (e = .returned (.bool false) ∧ ∃ Hx, H' = [(l, .loop { rc with state := .done, pending := some .ret })] :: Hx ∧ RT false Hx) := by
  intro m w hw
  have hl : w.heap[l]? = some (.loop rc) := hw.has (l, .loop rc) (by simp)
  refine ⟨_, _, _, _, run_yield hl (by simpa using hlen), roundIn_of_wpIn trivial ?_⟩
  refine wpIn_mono (h m _ w hfr hw) ?_
  rintro e a1 w1 ⟨E1, H1, x, s, q⟩
  cases e with
  | normal =>
    obtain ⟨Hx, hs, hbody⟩ := q
    have s1 := hs w0 w1 s
    have hl1 : w1.heap[l]? = some (.loop rc) := s1.has (l, .loop rc) (by simp)
    refine ⟨_, run_beginRound hl1 hst, ?_⟩
    have s2 : St w0 (w1.putObj l (.loop { rc with state := .busy })) ([(l, .loop { rc with state := .busy })] :: Hx) := s1.putB (s := 0) (k := 0) rfl _
    refine wpIn_mono (hbody m a1 _ (x.2 rfl) s2) ?_
    rintro e a2 w2 ⟨E2, H2, x2, s3, q2⟩
    cases e with
    | normal =>
      obtain ⟨Hy, hs2, rt⟩ := q2
      have s4 := hs2 w0 w2 s3
      have hl2 : w2.heap[l]? = some (.loop { rc with state := .busy }) := s4.has (l, .loop { rc with state := .busy }) (by simp)
      refine ⟨_, _, run_endRound none hl2, ?_⟩
      have s5 := s4.putB (s := 0) (k := 0) rfl (.loop rc)
      refine ⟨_, ?_, .inl ⟨rfl, Hy, rfl, rt⟩⟩
      have e : ({ { rc with state := .busy } with state := if (none : Option Code).isNone then .ready else .done, pending := none } : Loop) = rc := by
        cases rc; simp only at hst hpe; subst hst; subst hpe; rfl
      rw [e]; exact s5
    | ret =>
      obtain ⟨Hy, hs2, rt⟩ := q2
      have s4 := hs2 w0 w2 s3
      have hl2 : w2.heap[l]? = some (.loop { rc with state := .busy }) := s4.has (l, .loop { rc with state := .busy }) (by simp)
      refine ⟨_, _, run_endRound (some .ret) hl2, ?_⟩
      have s5 := s4.putB (s := 0) (k := 0) rfl (.loop { rc with state := .done, pending := some .ret })
      exact ⟨_, s5, .inr ⟨rfl, Hy, rfl, rt⟩⟩
    | _ => exact q2.elim
  | _ => exact q.elim
/-! ### The statement, and the function that holds it -/
def WpT (P : Program) (n : FN) (w0 : World) (c : Code) (Q0 : Exit → Act → World → Prop) (E : Env) (H : Hp) : Prop := ∀ a w, FrOk n E a → St w0 w H → c.wp P Q0 a w
@[reducible] def thruQ (n : FN) (w0 : World) (K : Env → Hp → Prop) (Q0 : Exit → Act → World → Prop) : Post := fun e E H => match e with
  | .normal => K E H
  | .panic _ => False
  | .outgrown => False
  | e => ∀ a w, FrOk n E a → St w0 w H → Q0 e a w
variable {Q0 : Exit → Act → World → Prop}
theorem T_seq {x y : Code} (h : WpC P n w0 x (thruQ n w0 (WpT P n w0 y Q0) Q0) E H) : WpT P n w0 (.seq x y) Q0 E H := fun a w ha hw => by
  refine wp_seq (wp_mono (h a w ha hw) ?_)
  rintro e a' w' ⟨E', H', x, s, q⟩
  cases e with
  | normal => exact q a' w' (x.2 rfl) s
  | panic _ => exact q.elim
  | outgrown => exact q.elim
  | exit id => exact q a' w' (x.2 rfl) s
  | goto id => exact q a' w' (x.2 rfl) s
  | ret => exact q a' w' (x.2 rfl) s
theorem T_seqT {x y : Code} (h : WpT P n w0 x (Exit.then (fun a w => y.wp P Q0 a w) Q0) E H) : WpT P n w0 (.seq x y) Q0 E H := fun a w ha hw => wp_seq (h a w ha hw)
theorem T_of {c : Code} (h : WpC P n w0 c (thruQ n w0 (fun E H => ∀ a w, FrOk n E a → St w0 w H → Q0 .normal a w) Q0) E H) : WpT P n w0 c Q0 E H := fun a w ha hw => by
  refine wp_mono (h a w ha hw) ?_
  rintro e a' w' ⟨E', H', x, s, q⟩
  cases e with
  | normal => exact q a' w' (x.2 rfl) s
  | panic _ => exact q.elim
  | outgrown => exact q.elim
  | exit id => exact q a' w' (x.2 rfl) s
  | goto id => exact q a' w' (x.2 rfl) s
  | ret => exact q a' w' (x.2 rfl) s
def mark (db : Nat) : List Deferred := [{ target := .collected db, args := #[] }]
def RR (w0 : World) (R : Ending → Hp → Prop) : Ending → World → Prop := fun e w' => ∃ H', St w0 w' H' ∧ R e H'
theorem T_range {k b0 f : Nat} {g : Operand} {ps : Array Tmp} {assign body : Code} {cap : List Value} {KN KX : Hp → Prop} (hg : ev E g = some (.func (.func f) #[] cap.toArray)) (hc : ∀ args w, (callFunc f args).run P w = .ok (.enter f args) w)
    (call : ∀ l db fn tmps (rc : Loop), rc = { state := .ready, pending := none, fn, tmps, params := ps, assign, body, defers := db } → FrOk ⟨k, []⟩ E { tmps := tmps, defers := [] } → FnS P w0 f (#[.func (.yield l) #[] #[]] ++ cap.toArray)
      ([(l, .loop rc)] :: [(db, .deferred (some []))] :: H)
      fun e H' => (∃ v, e = .returned v) ∧ ((∃ Hr, H' = [(l, .loop rc)] :: [(db, .deferred (some []))] :: Hr ∧ KN Hr) ∨
        (∃ Hr, H' = [(l, .loop { rc with state := .done, pending := some .ret })] :: [(db, .deferred (some []))] :: Hr ∧ KX Hr)))
    (normal : ∀ db Hr a w, KN Hr → FrOk ⟨k, mark db⟩ E a → St w0 w ([(db, .deferred (some []))] :: Hr) → Q0 .normal a w)
    (ret : ∀ db Hr a w, KX Hr → FrOk ⟨k, mark db⟩ E a → St w0 w ([(db, .deferred (some []))] :: Hr) → Q0 .ret a w) :
    WpT P ⟨k, []⟩ w0 (.block b0 (.rangeFunc g ps assign body)) Q0 E H := fun a w ha hw => by
  refine wp_block ((wpIn_wide (n := 0)).1 (wpIn_rangeFunc fun fn _ => ?_))
  have hd : a.defers = [] := ha.defers
  have hinv : ∀ y w1, (invoke (.fn (.func f) cap.toArray) #[y]).run P w1 = .ok (.enter f (#[y] ++ cap.toArray)) w1 := fun y w1 => by
    simp only [invoke]; exact hc _ _
  have hfr : FrOk ⟨k, []⟩ E { tmps := a.tmps, defers := [] } := ⟨rfl, ha.size, ha.known⟩
  refine ⟨w.heap.size + 1, mark w.heap.size, ((w.alloc (.deferred (some []))).alloc (.loop { state := .ready, pending := none, fn, tmps := a.tmps, params := ps, assign, body, defers := w.heap.size })), ⟨.fn (.func f) cap.toArray, #[.func (.yield (w.heap.size + 1)) #[] #[]]⟩, ((w.alloc (.deferred (some []))).alloc (.loop { state := .ready, pending := none, fn, tmps := a.tmps, params := ps, assign, body, defers := w.heap.size })), f, #[.func (.yield (w.heap.size + 1)) #[] #[]] ++ cap.toArray, ((w.alloc (.deferred (some []))).alloc (.loop { state := .ready, pending := none, fn, tmps := a.tmps, params := ps, assign, body, defers := w.heap.size })), run_enterLoop_outer fn a.tmps ps assign body, ?_, fun _ _ => trivial, hinv _ _, fun h => Bool.noConfusion (show false = true from h), ?_⟩
  · have e2 := ha.eval hg
    simp only [resolve, rangeCall, e2, Deferred.ofValue]
    simp [Act.eval]
  · refine callsIn_wide.2 ((call (w.heap.size + 1) w.heap.size fn a.tmps _ rfl hfr _ ?_).mono ?_)
    · have s1 := hw.alloc (.deferred (some []))
      have s2 := s1.alloc (.loop { state := .ready, pending := none, fn, tmps := a.tmps, params := ps, assign, body, defers := w.heap.size })
      rw [World.size_alloc] at s2
      exact s2
    · rintro e w' ⟨H', s, ⟨v, rfl⟩, hor⟩
      rcases hor with ⟨Hr, rfl, kn⟩ | ⟨Hr, rfl, kx⟩
      · have hl := s.has (w.heap.size + 1, _) (by simp; exact .inl rfl)
        refine ⟨_, _, run_endLoop hl (by simp), ?_⟩
        have s2 := s.putB (s := 0) (k := 0) rfl (.loop { state := .exhausted, pending := none, fn, tmps := a.tmps, params := ps, assign, body, defers := w.heap.size })
        exact normal _ Hr _ _ kn ⟨by simp [hd], ha.size, ha.known⟩ ((HSub.drop _ _) w0 _ s2)
      · have hl := s.has (w.heap.size + 1, _) (by simp; exact .inl rfl)
        refine ⟨_, _, run_endLoop hl (by simp), ?_⟩
        have s2 := s.putB (s := 0) (k := 0) rfl (.loop { state := .exhausted, pending := some .ret, fn, tmps := a.tmps, params := ps, assign, body, defers := w.heap.size })
        exact (wpIn_wide (n := 0)).2 (wp_ret (ret _ Hr _ _ kx ⟨by simp [hd], ha.size, ha.known⟩ ((HSub.drop _ _) w0 _ s2)))
/-- The way out, nothing deferred. -/
theorem M_out {k : Nat} {fn : Func} {rs : List ResultVar} {vs : List Value} {R : Ending → Hp → Prop} {m : Nat} {a : Act} {w : World} (hr : fn.results.toList = rs) (ha : FrOk ⟨k, []⟩ E a) (hw : St w0 w H) (hrv : RV P w0 E H rs vs) (hs : HSub H' H) (hR : R (.returned (pack vs)) H') :
    LeavesInM Fence.wide m P fn a.tmps (RR w0 R) a.defers .returning w := by
  rw [ha.defers]
  exact ⟨_, run_results ha hw (hr ▸ hrv), H', hs w0 w hw, hR⟩
/-- The way out, behind such a loop. -/
theorem M_mark {k db : Nat} {fn : Func} {rs : List ResultVar} {vs : List Value} {R : Ending → Hp → Prop} {m : Nat} {a : Act} {w : World} (hr : fn.results.toList = rs) (ha : FrOk ⟨k, mark db⟩ E a) (hw : St w0 w ([(db, .deferred (some []))] :: H)) (hrv : RV P w0 E H rs vs) (hs : HSub H' H) (hR : R (.returned (pack vs)) H') :
    LeavesInM Fence.wide m P fn a.tmps (RR w0 R) a.defers .returning w := by
  rw [ha.defers]
  have hl : w.heap[db]? = some (.deferred (some [])) := hw.has (db, .deferred (some [])) (by simp)
  have s2 := (HSub.drop _ _) w0 _ (hw.putB (s := 0) (k := 0) rfl (.deferred none))
  have ha' : FrOk ⟨k, []⟩ E { tmps := a.tmps, defers := [] } := ⟨rfl, ha.size, ha.known⟩
  exact ⟨by simp, .inl ⟨db, _, rfl, run_takeDeferred hl, _, run_results (a := { tmps := a.tmps, defers := [] }) ha' s2 (hr ▸ hrv), H', hs w0 _ s2, hR⟩⟩
theorem FnSM_intro {k f : Nat} {fn : Func} {c : Code} {vs : List Value} {R : Ending → Hp → Prop} (hf : P.funcs[f]? = some fn) (hb : fn.body = some c) (hn : fn.ntmps = k)
    (hlen : Nat.ble vs.length k = true) (h : WpT P ⟨k, []⟩ w0 c (bodyPostM Fence.wide 0 P fn (RR w0 R)) (args0 vs 0) H) : FnS P w0 f vs.toArray H R := fun w hw => by
  refine callsIn_wide.1 (callsIn_of_wp_marks (n := 0) hf hb trivial ((wpIn_wide).2 (h _ w (args_ok hn (Nat.le_of_ble_eq_true hlen)) hw)))
theorem YS.mono {l : Nat} {args : Array Value} {R R' : Ending → Hp → Prop} (h : YS P w0 l args H R) (hr : ∀ e H', R e H' → R' e H') : YS P w0 l args H R' := fun m w hw => by
  obtain ⟨fn, tmps, assign, body, h1, h2⟩ := h m w hw
  exact ⟨fn, tmps, assign, body, h1, h2.mono fun e w' ⟨H', s, r⟩ => ⟨H', s, hr e H' r⟩⟩
theorem YS.sub {l : Nat} {args : Array Value} {R : Ending → Hp → Prop} (hs : HSub H' H) (h : YS P w0 l args H' R) : YS P w0 l args H R := fun m w hw => h m w (hs w0 w hw)
theorem frOk_two {k p q : Nat} {u v : Value} {tmps : Array Value} (h : FrOk ⟨k, []⟩ E { tmps := tmps, defers := [] }) (hp : p < k) (hq : q < k) :
    FrOk ⟨k, []⟩ ((q, u) :: (p, v) :: E) { tmps := ((#[p, q] : Array Nat).zip [v, u].toArray).foldl (fun tmps (t, a) => tmps.setIfInBounds t a) tmps, defers := [] } := by
  have h1 := h.put (d := some p) (by simp [dok, Nat.blt]; exact hp) v
  have h2 := h1.put (d := some q) (by simp [dok, Nat.blt]; exact hq) u
  have e : ((#[p, q] : Array Nat).zip [v, u].toArray).foldl (fun tmps (t, a) => tmps.setIfInBounds t a) tmps = (tmps.setIfInBounds p v).setIfInBounds q u := by simp
  rw [e]
  exact h2
end Go.Sl

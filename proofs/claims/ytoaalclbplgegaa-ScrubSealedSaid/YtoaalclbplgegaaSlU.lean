/- Loops round by round (own work). -/
import Derived.Test.YtoaalclbplgegaaSlI
set_option linter.unusedVariables false
namespace Go.Sl
variable {P : Program} {n : FN} {w0 : World} {Q : Post} {E : Env} {H : Hp}
/-- Within a loop, ahead of a round. -/
def WpIn (P : Program) (n : FN) (w0 : World) (c : Code) (Q : Post) (E : Env) (H : Hp) : Prop := ∀ a w, FrOk n E a → St w0 w H → ∀ b k cs,
  ∃ e a' w', lift n w0 Q e a' w' ∧ Arrives P (lone (b.at a (.code c :: .inLoop c :: k)) cs w) b k cs e a' w'
theorem C_loopIn {c : Code} (h : WpIn P n w0 c Q E H) : WpC P n w0 (.loop c) Q E H := by
  intro a w ha hw b k cs
  obtain ⟨e, a', w', hq, harr⟩ := h a w ha hw b k cs
  exact ⟨e, a', w', hq, .of_steps (.one step_loop) harr⟩
theorem In_round {c : Code} (h : WpC P n w0 c (thenQ (fun E' H' => WpIn P n w0 c Q E' H') Q) E H) : WpIn P n w0 c Q E H := by
  intro a w ha hw b k cs
  obtain ⟨e, a₁, w₁, hq, harr⟩ := h a w ha hw b (.inLoop c :: k) cs
  obtain ⟨E₁, H₁, f1, s1, q⟩ := hq
  cases e with
  | normal =>
    obtain ⟨e₂, a₂, w₂, hq₂, harr₂⟩ := q a₁ w₁ (f1.2 rfl) s1 b k cs
    exact ⟨e₂, a₂, w₂, hq₂, .of_steps (Steps.trans harr (.one step_inLoop)) harr₂⟩
  | exit id => exact ⟨_, a₁, w₁, ⟨E₁, H₁, f1, s1, q⟩, .pass (x := .inLoop c) rfl (fun _ _ => .inl (by simp)) harr⟩
  | goto l => exact ⟨_, a₁, w₁, ⟨E₁, H₁, f1, s1, q⟩, .pass (x := .inLoop c) rfl (fun _ _ => .inl (by simp)) harr⟩
  | ret => exact ⟨_, a₁, w₁, ⟨E₁, H₁, f1, s1, q⟩, .pass (x := .inLoop c) rfl (fun _ _ => .inl (by simp)) harr⟩
  | panic ch => exact ⟨_, a₁, w₁, ⟨E₁, H₁, f1, s1, q⟩, .pass (x := .inLoop c) rfl (fun _ _ => .inl (by simp)) harr⟩
  | outgrown => exact ⟨_, a₁, w₁, ⟨E₁, H₁, f1, s1, q⟩, .pass (x := .inLoop c) rfl (fun _ _ => .inl (by simp)) harr⟩
/-- Any of these loud operations may come up. -/
def HAll (P : Program) (n : FN) (w0 : World) (ops : List Oper) (Q : Post) (HS : Hp) (fuel : Nat) (listed : List Bool) (E : Env) (H : Hp) : List Nat → Prop
  | [] => True
  | k :: ks => (∃ o, ops[k]? = some o ∧ wE ops E o.guard = some true ∧ OpW P n w0 Q o E H (fun E' H' => HSub HS H' ∧ WpH P n w0 ops Q HS fuel (listed.set k true) E' H')) ∧ HAll P n w0 ops Q HS fuel listed E H ks
theorem HAll.mem {HS : Hp} {ops : List Oper} {fuel : Nat} {listed : List Bool} : ∀ {is : List Nat} {k : Nat}, HAll P n w0 ops Q HS fuel listed E H is → k ∈ is →
    ∃ o, ops[k]? = some o ∧ wE ops E o.guard = some true ∧ OpW P n w0 Q o E H (fun E' H' => HSub HS H' ∧ WpH P n w0 ops Q HS fuel (listed.set k true) E' H')
  | [], _, _, h => by simp at h
  | j :: is, k, h, hk => by
    rcases List.mem_cons.1 hk with rfl | h2
    · exact h.1
    · exact HAll.mem h.2 h2
theorem H_many {HS : Hp} {ops : List Oper} {fuel : Nat} {listed : List Bool} (is : List Nat) (hr : Region.ready .any ops.toArray listed.toArray = is) (hne : is ≠ []) (h : HAll P n w0 ops Q HS fuel listed E H is) :
    WpH P n w0 ops Q HS (fuel + 1) listed E H := fun a w ha hw =>
  wpAnyH_all hr hne fun k hk => by
    obtain ⟨o, hi, hg, h1⟩ := h.mem hk
    exact wpOp_of_OpW hi hg h1 ha hw
end Go.Sl

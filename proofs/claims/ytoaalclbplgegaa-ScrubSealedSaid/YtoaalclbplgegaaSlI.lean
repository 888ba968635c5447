/- Interfaces, methods called through them, strings told as bytes, and maps of numbers to true (own work). -/
import Derived.Test.YtoaalclbplgegaaSlH
import Derived.Laws.IdiomStrings
set_option linter.unusedVariables false
set_option linter.unusedSimpArgs false
namespace Go.Sl
variable {P : Program} {n : FN} {w0 : World} {Q : Post} {E E' : Env} {H H' HS : Hp} {W : World → Prop} {K : Env → Hp → Prop}
variable {d : Option Nat} {ty t t2 : Nat} {ps : String} {af : Array Edge} {g : Option (Nat × Bool)} {x y c : Operand}
/-! ### Interfaces -/
def concT (P : Program) (t : TypeId) : Bool := match P.underlying t with | some (.interface _) => false | some _ => true | none => false
def ifcT (P : Program) (t : TypeId) : Bool := match P.underlying t with | some (.interface _) => true | _ => false
theorem y_mkIface {v : Value} (hx : ev E x = some v) (h : concT P t = true) : YV P n E W (.makeInterface t x) ty (.iface t v) := fun a w ha _ d ps af g => by
  unfold concT at h
  cases hu : P.underlying t with
  | none => simp [hu] at h
  | some u =>
    have hr : (Instr.makeInterface t v).run P w = .ok (.iface t v) w := by
      unfold Instr.makeInterface
      rw [Sem.run_bind, run_underlying hu]
      simp only [Result.andThen_ok]
      cases u <;> simp_all
    simp only [execOp, ha.eval hx]
    rw [Sem.run_bind, hr]
    rfl
theorem run_eq_ifnil {u : Nat} {v : Value} (h : ifcT P t = true) (w : World) : (Op.equal t (.iface u v) .nilIface).run P w = .ok false w := by
  unfold ifcT at h
  cases hu : P.underlying t with
  | none => simp [hu] at h
  | some d =>
    cases d <;> simp [hu] at h
    rename_i ms
    have key : ∀ k, (Op.equalIn (k + 1) t (.iface u v) .nilIface).run P w = .ok false w := by
      intro k
      simp only [Op.equalIn, Sem.run_bind, run_underlying hu, Result.andThen_ok]
      rfl
    exact key 9999
theorem run_eq_nilnil (h : ifcT P t = true) (w : World) : (Op.equal t .nilIface .nilIface).run P w = .ok true w := by
  unfold ifcT at h
  cases hu : P.underlying t with
  | none => simp [hu] at h
  | some d =>
    cases d <;> simp [hu] at h
    have key : ∀ k, (Op.equalIn (k + 1) t .nilIface .nilIface).run P w = .ok true w := by
      intro k
      simp only [Op.equalIn, Sem.run_bind, run_underlying hu, Result.andThen_ok]
      rfl
    exact key 9999
/-! ### Methods -/
def methT (P : Program) (t : TypeId) (name : String) : Option (FuncId × Bool) := ((P.info? t).bind fun i => i.methods.find? (·.name == name)).bind fun m => if m.path.isEmpty then m.func else none
/-- Is the receiver handed on as it is? -/
def recvT (P : Program) (t : TypeId) (p : Bool) : Bool := match P.underlying t, p with
  | some (.pointer _), p => p
  | some _, p => !p
  | none, _ => false
theorem run_method {f k : Nat} {b : Bool} {name : String} {v : Value} (h : methT P t name = some (f, b)) (hr : recvT P t b = true) (w : World) : (method (k + 1) t v name).run P w = .ok (f, v) w := by
  unfold methT at h
  cases hi : P.info? t with
  | none => simp [hi] at h
  | some i =>
    simp only [hi, Option.bind_some] at h
    cases hm : i.methods.find? (·.name == name) with
    | none => simp [hm] at h
    | some m =>
      simp only [hm, Option.bind_some] at h
      split at h
      case isFalse => cases h
      rename_i he
      have hp : m.path.toList = [] := by simpa using he
      have hti : (typeInfo t).run P w = .ok i w := by simp [typeInfo, hi]
      unfold method
      rw [Sem.run_bind, hti]
      simp only [Result.andThen_ok, hm, hp, follow, Sem.run_bind, Sem.run_pure, h]
      unfold recvT at hr
      cases hu : P.underlying t with
      | none => simp [hu] at hr
      | some u =>
        unfold receiverAt
        rw [Sem.run_bind, run_underlying hu]
        simp only [Result.andThen_ok]
        cases u <;> cases b <;> simp_all [Place.get]
theorem run_nilAhead {f k : Nat} {b : Bool} {name : String} {v : Value} (h : methT P t name = some (f, b)) (hr : recvT P t b = true) (w : World) : (nilAhead (k + 1) t v name).run P w = .ok (some false) w := by
  unfold methT at h
  cases hi : P.info? t with
  | none => simp [hi] at h
  | some i =>
    simp only [hi, Option.bind_some] at h
    cases hm : i.methods.find? (·.name == name) with
    | none => simp [hm] at h
    | some m =>
      simp only [hm, Option.bind_some] at h
      split at h
      case isFalse => cases h
      rename_i he
      have hp : m.path.toList = [] := by simpa using he
      have hti : (typeInfo t).run P w = .ok i w := by simp [typeInfo, hi]
      unfold nilAhead
      rw [Sem.run_bind, hti]
      simp only [Result.andThen_ok, hm, hp, followBlind, Sem.run_bind, Sem.run_pure, h]
      unfold recvT at hr
      cases hu : P.underlying t with
      | none => simp [hu] at hr
      | some u =>
        cases b
        · simp only [Sem.run_bind, run_underlying hu, Result.andThen_ok]
          cases u <;> simp_all
        · simp
theorem y_nilCheckM {name : String} {u f : Nat} {b : Bool} {v : Value} {cap : Array Value} (hx : ev E x = some (.func (.method name) #[.iface u v] cap)) (h : methT P u name = some (f, b)) (hr : recvT P u b = true) :
    YV P n E W (.nilCheck x) ty (.func (.method name) #[.iface u v] cap) := fun a w ha _ d ps af g => by
  have hp : (program).run P w = .ok P w := rfl
  have e3 : (#[Value.iface u v] : Array Value)[0]? = some (.iface u v) := rfl
  simp only [execOp, ha.eval hx, e3, Sem.run_bind, hp, Result.andThen_ok]
  rw [show P.types.size + Made.depth = (P.types.size + 99) + 1 from rfl, run_nilAhead h hr]
  rfl
theorem y_eqIf {u : Nat} {v : Value} (hx : ev E x = some (.iface u v)) (hy : ev E y = some .nilIface) (h : ifcT P t = true) : YV P n E W (.binOp .eql t x y t2) ty (.bool false) := fun a w ha _ d ps af g => by
  have h1 := run_eq_ifnil (u := u) (v := v) h w
  simp only [execOp, ha.eval hx, ha.eval hy, eqGuard_at_iface, binOp]
  simp [h1]
theorem y_eqIf0 {k : Value} (hx : ev E x = some .nilIface) (hk : k = .nilIface) (h : ifcT P t = true) : YV P n E W (.binOp .eql t x (.const k) t2) ty (.bool true) := fun a w ha _ d ps af g => by
  subst hk
  have h1 := run_eq_nilnil h w
  have hg : (eqGuard .eql t x (.const .nilIface) .nilIface .nilIface).run P w = .ok () w := by
    simp [eqGuard]
  have he : a.eval (.const .nilIface) = .nilIface := rfl
  simp only [execOp, ha.eval hx, he, binOp, Sem.run_bind, hg, Result.andThen_ok]
  simp [h1]
theorem run_eq_fn {ps rs : Array TypeId} {vr : Bool} (hu : P.underlying t = some (.func ps rs vr)) (f : Fn) (a c : Array Value) (w : World) : (Op.equal t (.func f a c) .nilFunc).run P w = .ok false w := by
  have key : ∀ k, (Op.equalIn (k + 1) t (.func f a c) .nilFunc).run P w = .ok false w := by
    intro k
    simp only [Op.equalIn, Sem.run_bind, run_underlying hu, Result.andThen_ok]
    rfl
  exact key 9999
theorem run_eq_fn0 {ps rs : Array TypeId} {vr : Bool} (hu : P.underlying t = some (.func ps rs vr)) (w : World) : (Op.equal t .nilFunc .nilFunc).run P w = .ok true w := by
  have key : ∀ k, (Op.equalIn (k + 1) t .nilFunc .nilFunc).run P w = .ok true w := by
    intro k
    simp only [Op.equalIn, Sem.run_bind, run_underlying hu, Result.andThen_ok]
    rfl
  exact key 9999
theorem y_eqfn {pp rs : Array TypeId} {vr : Bool} {f : Fn} {p c : Array Value} (hx : ev E x = some (.func f p c)) (hy : ev E y = some .nilFunc) (hu : P.underlying t = some (.func pp rs vr)) : YV P n E W (.binOp .eql t x y t2) ty (.bool false) := fun a w ha _ d ps af g => by
  have h1 := run_eq_fn hu f p c w
  simp only [execOp, ha.eval hx, ha.eval hy, eqGuard_at_func, binOp]
  simp [h1]
theorem y_nefn {pp rs : Array TypeId} {vr : Bool} {f : Fn} {p c : Array Value} (hx : ev E x = some (.func f p c)) (hy : ev E y = some .nilFunc) (hu : P.underlying t = some (.func pp rs vr)) : YV P n E W (.binOp .neq t x y t2) ty (.bool true) := fun a w ha _ d ps af g => by
  have h1 := run_eq_fn hu f p c w
  simp only [execOp, ha.eval hx, ha.eval hy, eqGuard_at_func, binOp]
  simp [h1]
theorem y_nefn0 {pp rs : Array TypeId} {vr : Bool} (hx : ev E x = some .nilFunc) (hy : ev E y = some .nilFunc) (hu : P.underlying t = some (.func pp rs vr)) : YV P n E W (.binOp .neq t x y t2) ty (.bool false) := fun a w ha _ d ps af g => by
  have h1 := run_eq_fn0 hu w
  simp only [execOp, ha.eval hx, ha.eval hy, eqGuard_at_nilFunc, binOp]
  simp [h1]
theorem op_invoke {f u : Nat} {b : Bool} {ce : Operand} {name : String} {v : Value} {args : List Operand} {vs : List Value} {tys : Array TypeId} (hf : ev E ce = some (.iface u v)) (hargs : args.mapM (ev E) = some vs)
    (hm : methT P u name = some (f, b)) (hr : recvT P u b = true) (hc : ∀ args w, (callFunc f args).run P w = .ok (.enter f args) w) (hd : dok d n = true)
    (h : FnS P w0 f (v :: vs).toArray H fun e H' => ∃ v, e = .returned v ∧ K (put E d v) H') :
    OpW P n w0 Q ⟨d, .call { callee := .invoke ce name, args := args.toArray, argTypes := tys }, ty, ps, af, g⟩ E H K := fun a w ha hw next hn => by
  unfold Oper.wp
  have e1 := evals ha hargs
  have e2 := ha.eval hf
  have hr : (execOp a.eval ⟨d, .call { callee := .invoke ce name, args := args.toArray, argTypes := tys }, ty, ps, af, g⟩).run P w = .ok (.enter f (v :: vs).toArray) w := by
    have hp : (program).run P w = .ok P w := rfl
    have e3 : (#[Value.iface u v] ++ vs.toArray)[0]? = some (.iface u v) := by simp
    have e4 : (#[Value.iface u v] ++ vs.toArray).extract 1 (#[Value.iface u v] ++ vs.toArray).size = vs.toArray := by
      apply Array.ext'
      simp
    simp only [execOp, resolve, Sem.run_bind, e2, Sem.run_pure, Result.andThen_ok, invoke, List.map_toArray, e1, e3, e4, callMethod, hp]
    rw [show P.types.size + Made.depth = (P.types.size + 99) + 1 from rfl, run_method hm hr]
    simp only [Result.andThen_ok, hc]
    simp
  rw [hr]
  refine (h w hw).mono ?_
  rintro e w' ⟨H', s, v, rfl, k⟩
  exact hn _ _ _ _ (ha.put hd v) s k
/-! ### Strings told as bytes -/
theorem op_strBytes {src dst e : Nat} {l : List UInt8} {s : ByteArray} (hx : ev E x = some (.string s)) (hl : s.data.toList = l) (hs : P.underlying src = some .string) (hds : P.underlying dst = some (.slice e)) (he : P.underlying e = some (.int .u8)) (hd : dok d n = true)
    (k : ∀ b cap m sp, K (put E d (.slice (some ⟨b, 0, none⟩) l.length cap)) ([(b, .cells (bs l ++ sp).toArray e (m, m + 1))] :: H)) :
    OpW P n w0 Q ⟨d, .convert src dst x, ty, ps, af, g⟩ E H K := op_run hd fun a w ha hw => by
  have hsz : s.size = l.length := by rw [← hl]; rfl
  have h := run_bytes_of_string (P := P) w src dst e s hs hds he
  have hrow : bytesRow s (grownCap w s.size 0 e) = (bs l ++ List.replicate (grownCap w s.size 0 e - s.size) (Value.int .u8 0)).toArray := by
    subst hl
    unfold bytesRow
    apply Array.ext'
    simp [bs, u8, Function.comp_def]
  refine ⟨_, _, _, ?_, hw.drew.alloc _, k w.heap.size (grownCap w s.size 0 e) (bytesRow s (grownCap w s.size 0 e)).size (List.replicate (grownCap w s.size 0 e - s.size) (Value.int .u8 0))⟩
  simp only [execOp, ha.eval hx]
  rw [Sem.run_bind, h, hrow, hsz]
  rfl
theorem y_sliceA2 {e m len b off : Nat} {k k' : IntKind} {lo hi : Int} {r q q' : Nat} (hx : ev E x = some (.pointer (some ⟨b, off, none⟩))) (hy : ev E y = some (.int k lo)) (hc : ev E c = some (.int k' hi))
    (hu : P.underlying t = some (.array len e)) (hz : szT P e = some m) (h0 : 0 ≤ lo) (h1 : lo ≤ hi) (h2 : hi ≤ len) (hr : (if len = lo.toNat then off else off + lo.toNat * m) = r) (hq : hi.toNat - lo.toNat = q) (hq' : len - lo.toNat = q') :
    YV P n E W (.slice t x (some y) (some c) none) ty (.slice (some ⟨b, r, none⟩) q q') := by
  subst hq; subst hq'
  exact y_sliceA hx hy hc hu hz h0 h1 h2 hr
/-- '[]byte(b)' of bytes told as bytes: the row is marked. -/
theorem op_markBytes {src dst e e2 b off len cap : Nat} {l : List Value} {T : TypeId} (s j : Nat) (hx : ev E x = some (.slice (some ⟨b, off, none⟩) len cap)) (hsd : src = dst) (hu : P.underlying src = some (.slice e2)) (hv : P.underlying dst = some (.slice e)) (he : P.underlying e = some (.int .u8))
    (hH : getH H s j = some (b, .cells l.toArray T)) (hd : dok d n = true) (k : K (put E d (.slice (some ⟨b, off, none⟩) len cap)) (setH H s j (.cells l.toArray T (l.length, l.length + 1)))) :
    OpW P n w0 Q ⟨d, .convert src dst x, ty, ps, af, g⟩ E H K := op_run hd fun a w ha hw => by
  have h : w.heap[b]? = some (.cells l.toArray T (0, 0)) := hw.has _ (getH_mem hH)
  refine ⟨_, _, _, ?_, hw.putB hH _, k⟩
  have hlt : b < w.heap.size := (Array.getElem?_eq_some_iff.1 h).1
  have hfr : w.freeze ⟨b, l.length, none⟩ 1 = putB w b (.cells l.toArray T (l.length, l.length + 1)) := by
    unfold World.freeze putB
    rw [if_neg (by decide)]
    congr 1
    apply Array.ext
    · simp
    · intro i h1 h2
      rw [Array.getElem_modify, Array.getElem_setIfInBounds (by simpa using h1)]
      by_cases hi : b = i
      · subst hi
        have : w.heap[b] = .cells l.toArray T (0, 0) := (Array.getElem?_eq_some_iff.1 h).2
        simp [this]
      · simp [hi]
  have hm : (markStringish ⟨b, off, none⟩).run P w = .ok () (putB w b (.cells l.toArray T (l.length, l.length + 1))) := by
    unfold markStringish
    rw [Sem.run_bind, show (shape b).run P w = .ok (w.shape? b) w from rfl]
    have hs : w.shape? b = some (T, l.length) := by simp [World.shape?, h]
    simp only [Result.andThen_ok, hs]
    rw [show (freeze ⟨b, l.length, none⟩ 1).run P w = .ok () (w.freeze ⟨b, l.length, none⟩ 1) from rfl, hfr]
  have hr : (convert src dst (.slice (some ⟨b, off, none⟩) len cap)).run P w = .ok (.slice (some ⟨b, off, none⟩) len cap) (putB w b (.cells l.toArray T (l.length, l.length + 1))) := by
    unfold convert
    rw [Sem.run_bind, run_underlying hu]
    simp only [Result.andThen_ok]
    rw [Sem.run_bind, run_underlying hv]
    simp only [Result.andThen_ok]
    rw [Sem.run_bind, run_underlying he]
    have hbq : (src == dst) = true := by simp [hsd]
    simp only [Result.andThen_ok, hbq, Sem.run_bind, hm, Sem.run_pure]
  simp only [execOp, ha.eval hx]
  rw [Sem.run_bind, hr]
  rfl
/-! ### A copy from whatever may be read -/
theorem op_copyS {e m b off dl dc sl : Nat} {l vs : List Value} {v : Value} {T : TypeId} {t0 t1 : TypeId} (s j : Nat) (hx : ev E x = some (.slice (some ⟨b, off, none⟩) dl dc)) (hy : ev E y = some v)
    (hu : P.underlying t0 = some (.slice e)) (hz : szT P e = some m) (hs : Src P w0 H m v sl vs) (hle : sl ≤ dl) (hvl : vs.length = sl * m)
    (hH : getH H s j = some (b, .cells l.toArray T)) (ho : ∀ v ∈ vs, one v = true) (hlen : off + sl * m ≤ l.length) (hd : dok d n = true)
    (k : K (put E d (.int .i64 (sl : Int))) (setH H s j (.cells (spl l off vs).toArray T))) :
    OpW P n w0 Q ⟨d, .call { callee := .builtin .copy, args := [x, y].toArray, argTypes := #[t0, t1] }, ty, ps, af, g⟩ E H K := op_run hd fun a w ha hw => by
  have h : w.heap[b]? = some (.cells l.toArray T (0, 0)) := hw.has _ (getH_mem hH)
  refine ⟨_, _, _, ?_, hw.putB hH _, k⟩
  obtain ⟨h0, h1⟩ := hs w hw
  have h2 := run_storeCells' (P := P) h ho (off := off) (by omega)
  have hev := evals (n := n) (E := E) ha (l := [x, y]) (vs := [.slice (some ⟨b, off, none⟩) dl dc, v]) (by simp [hx, hy])
  have hr : (Builtin.copy_ #[t0, t1] ty #[.slice (some ⟨b, off, none⟩) dl dc, v]).run P w = .ok (.int .i64 (sl : Int)) (putB w b (.cells (spl l off vs).toArray T (0, 0))) := by
    have q0 : (#[t0, t1] : Array TypeId)[0]? = some t0 := rfl
    have q2 : (#[Value.slice (some ⟨b, off, none⟩) dl dc, v] : Array Value)[0]? = some (.slice (some ⟨b, off, none⟩) dl dc) := rfl
    have q3 : (#[Value.slice (some ⟨b, off, none⟩) dl dc, v] : Array Value)[1]? = some v := rfl
    unfold Builtin.copy_
    simp only [q0, q2, q3]
    rw [Sem.run_bind, run_underlying hu]
    simp only [Result.andThen_ok]
    rw [Sem.run_bind, h0]
    simp only [Result.andThen_ok]
    rw [Sem.run_bind, run_sizeOf hz]
    simp only [Result.andThen_ok, Sem.run_bind]
    rw [show Nat.min sl dl = sl from Nat.min_eq_left hle, h1]
    simp only [Result.andThen_ok, h2, Sem.run_pure]
    rfl
  simp only [execOp, resolve, Sem.run_bind, Sem.run_pure, Result.andThen_ok, invoke, List.map_toArray, hev, builtin]
  rw [show (#[Value.slice (some ⟨b, off, none⟩) dl dc, v] : Array Value) = [Value.slice (some ⟨b, off, none⟩) dl dc, v].toArray from rfl] at hr
  rw [hr]
  rfl
theorem src_holds {sz n cap : Nat} {a : Option Addr} {vs : List Value} (hp : P = P) (h : Holds w0 H a vs) (hl : vs.length = n * sz) (hn : a = none → n = 0) : Src P w0 H sz (.slice a n cap) n vs := by
  cases a with
  | none =>
    have := hn rfl
    subst this
    have : vs = [] := List.eq_nil_of_length_eq_zero (by omega)
    subst this
    exact src_nil
  | some x =>
    by_cases h0 : 0 < vs.length
    · obtain ⟨b, off, l, T, fr, e, h1, h2, h3⟩ := h h0
      cases e
      exact src_slice h1 (by omega) (by rw [← hl]; exact h3)
    · have : vs = [] := List.eq_nil_of_length_eq_zero (by omega)
      subst this
      intro w hw
      refine ⟨rfl, ?_⟩
      have hz : n * sz = 0 := by simpa using hl.symm
      simp only [Builtin.firstCells, hz]
      exact run_loadCells_list (P := P) w x [] (fun j v hj => by simp at hj)
theorem src_bytes {n cap : Nat} {a : Option Addr} {u : List UInt8} (h : Holds w0 H a (bs u)) (hl : u.length = n) : Src P w0 H 1 (.slice a n cap) n (bs u) := by
  subst hl
  refine src_holds rfl h (by rw [bs_length, Nat.mul_one]) fun e => ?_
  subst e
  rcases Nat.eq_zero_or_pos u.length with h0 | h0
  · exact h0
  · obtain ⟨b, off, l, T, fr, e, _⟩ := h (by rw [bs_length]; exact h0)
    cases e
theorem holds_bytes {b off T : Nat} {fr : Nat × Nat} {l : List Value} {u : List UInt8} (hs : Sees (fun w => St w0 w H) b (.cells l.toArray T fr)) (hv : (l.drop off).take u.length = bs u) : Holds w0 H (some ⟨b, off, none⟩) (bs u) := fun h0 => by
  have h2 : ((l.drop off).take u.length).length = u.length := by rw [hv, bs_length]
  rw [List.length_take, List.length_drop] at h2
  rw [bs_length] at h0
  exact ⟨b, off, l, T, fr, rfl, hs, by rw [bs_length]; omega, by rw [bs_length]; exact hv⟩
/-- A slice value that holds bytes. -/
def SlH (w0 : World) (H : Hp) (v : Value) (u : List UInt8) : Prop := ∃ a cap, v = .slice a u.length cap ∧ Holds w0 H a (bs u)
theorem slh_raw {a : Option Addr} {cap n : Nat} {u : List UInt8} (h : Holds w0 H a (bs u)) (hn : u.length = n) : SlH w0 H (.slice a n cap) u := hn ▸ ⟨a, cap, rfl, h⟩
theorem slh_v {g : Option SlG} {n e : Nat} {u : List UInt8} (k : Nat) (hs : H[k]? = some (slSeg e g (bs u))) (hok : slOk 1 g n (bs u)) (hn : u.length = n) : SlH w0 H (slV g n) u := by
  subst hn
  obtain ⟨a, cap, e1, h1⟩ := holds_sl (w0 := w0) hs hok
  exact ⟨a, cap, e1, h1⟩
theorem slh_nil {u : List UInt8} (hn : u = []) : SlH w0 H (.slice none 0 0) u := by
  subst hn
  exact ⟨none, 0, rfl, fun h => by simp [bs] at h⟩
theorem SlH.len {v : Value} {u : List UInt8} (h : SlH w0 H v u) : ∃ a cap, v = .slice a u.length cap := by
  obtain ⟨a, cap, e, _⟩ := h
  exact ⟨a, cap, e⟩
theorem y_strH {src dst e len cap : Nat} {a : Option Addr} {u : List UInt8} (hx : ev E x = some (.slice a len cap)) (hs : P.underlying src = some (.slice e)) (he : P.underlying e = some (.int .u8)) (hd : P.underlying dst = some .string)
    (h : Holds w0 H a (bs u)) (hl : u.length = len) : YV P n E (fun w => St w0 w H) (.convert src dst x) ty (.string ⟨u.toArray⟩) := by
  subst hl
  cases u with
  | nil =>
    cases a with
    | none => exact y_str0 hx hs he hd
    | some p =>
      intro a w ha hw d ps af g
      have h1 := run_loadCells_list (P := P) w p [] (fun j v hj => by simp at hj)
      have h2 := run_bytesToString (P := P) w p 0 cap [] h1
      simp only [execOp, ha.eval hx, Sem.run_bind, run_convert_bytes_string w src dst e _ _ _ hs he hd]
      rw [show ([] : List UInt8).length = 0 from rfl, h2]
      rfl
  | cons c u =>
    obtain ⟨b, off, l, T, fr, e1, h1, h2, h3⟩ := h (by simp [bs])
    subst e1
    exact y_str hx hs he hd h1 (by simpa [bs_length] using h2) (by simpa [bs_length] using h3)
theorem y_strV {src dst e : Nat} {v : Value} {u : List UInt8} (hx : ev E x = some v) (hs : P.underlying src = some (.slice e)) (he : P.underlying e = some (.int .u8)) (hd : P.underlying dst = some .string)
    (h : SlH w0 H v u) : YV P n E (fun w => St w0 w H) (.convert src dst x) ty (.string ⟨u.toArray⟩) := by
  obtain ⟨a, cap, rfl, hH⟩ := h
  exact y_strH hx hs he hd hH rfl
/-! ### Maps of numbers to true -/
def me (x : Int × Nat) : MapEntry := { key := .int .i64 x.1, val := .bool true, born := x.2 }
abbrev mapO (ks : List (Int × Nat)) (c : Nat) : Obj := .map (ks.map me).toArray c
def kHas (ks : List (Int × Nat)) (k : Int) : Bool := ks.any (·.1 == k)
def kPut (ks : List (Int × Nat)) (c : Nat) (k : Int) : List (Int × Nat) := if kHas ks k then ks else ks ++ [(k, c)]
def kClk (ks : List (Int × Nat)) (c : Nat) (k : Int) : Nat := if kHas ks k then c else c + 1
def kDel (ks : List (Int × Nat)) (k : Int) : List (Int × Nat) := match ks.findIdx? (·.1 == k) with | some i => ks.eraseIdx i | none => ks
theorem findNow_me (k : Int) : ∀ (ks : List (Int × Nat)) (i : Nat), Instr.findNow (.int .i64) (.int .i64 k) (ks.map me) i = some ((ks.findIdx? (·.1 == k)).map fun j => (i + j, .bool true))
  | [], i => rfl
  | x :: ks, i => by
    rw [List.map_cons, Instr.findNow]
    simp only [me, Instr.sameNow, if_true]
    rw [List.findIdx?_cons]
    by_cases h : k = x.1
    · subst h; simp
    · rw [show (k == x.1) = false from by simpa using h, show (x.1 == k) = false from by simpa using Ne.symm h]
      simp only [Bool.false_eq_true, if_false]
      rw [findNow_me k ks (i + 1)]
      simp only [Option.map_map]
      congr 1
      congr 1
      funext j
      simp only [Function.comp]
      rw [show i + 1 + j = i + (j + 1) by omega]
theorem run_findKey {kt : Nat} (hk : P.underlying kt = some (.int .i64)) (ks : List (Int × Nat)) (k : Int) (w : World) :
    (Instr.findKey kt (.int .i64 k) (ks.map me)).run P w = .ok ((ks.findIdx? (·.1 == k)).map fun j => (j, .bool true)) w := by
  unfold Instr.findKey
  rw [Sem.run_bind, run_underlying hk]
  simp only [Result.andThen_ok]
  rw [findNow_me]
  simp
theorem run_checkKey {kt : Nat} (hk : P.underlying kt = some (.int .i64)) (b : Bool) (k : Int) (w : World) : (Instr.checkKey b 10000 kt (.int .i64 k)).run P w = .ok () w := by
  have key : ∀ m, (Instr.checkKey b (m + 1) kt (.int .i64 k)).run P w = .ok () w := by
    intro m
    unfold Instr.checkKey
    rw [Sem.run_bind, run_underlying hk]
    rfl
  exact key 9999
theorem has_idx (ks : List (Int × Nat)) (k : Int) : kHas ks k = (ks.findIdx? (·.1 == k)).isSome := by
  simp [kHas, List.findIdx?_isSome]
theorem run_getMap {r : Nat} {es : Array MapEntry} {ck : Nat} {w : World} (h : w.heap[r]? = some (.map es ck)) : (getObj r).run P w = .ok (.map es ck) w := by
  simp only [getObj, Sem.run, h]
theorem run_setMap {r : Nat} {es : Array MapEntry} {ck : Nat} {w : World} (h : w.heap[r]? = some (.map es ck)) (o : Obj) : (setObj r o).run P w = .ok () (putB w r o) := by
  simp [setObj, Sem.run, h, putB]
theorem y_lookup {kt et r ck : Nat} {ks : List (Int × Nat)} {k : Int} (hx : ev E x = some (.map (some r))) (hy : ev E y = some (.int .i64 k)) (hu : P.underlying t = some (.map kt et)) (hk : P.underlying kt = some (.int .i64)) (hz : zeroT P et = some (.bool false)) (hs : Sees W r (mapO ks ck)) :
    YV P n E W (.lookup t x y false) ty (.bool (kHas ks k)) := fun a w ha hw d ps af g => by
  have h := run_getMap (P := P) (hs w hw)
  have hr : (Instr.lookup t (.map (some r)) (.int .i64 k) false).run P w = .ok (.bool (kHas ks k)) w := by
    unfold Instr.lookup
    rw [Sem.run_bind, run_underlying hu]
    simp only [Result.andThen_ok, Sem.run_bind, h, Sem.run_pure, run_checkKey hk, run_findKey hk]
    rw [has_idx]
    cases hi : ks.findIdx? (·.1 == k) with
    | none => simp [run_zeroValue hz]
    | some i => simp
  simp only [execOp, ha.eval hx, ha.eval hy]
  rw [Sem.run_bind, hr]
  rfl
theorem y_lookupNil {kt et : Nat} {k : Int} (hx : ev E x = some (.map none)) (hy : ev E y = some (.int .i64 k)) (hu : P.underlying t = some (.map kt et)) (hk : P.underlying kt = some (.int .i64)) (hz : zeroT P et = some (.bool false)) :
    YV P n E W (.lookup t x y false) ty (.bool false) := fun a w ha hw d ps af g => by
  have hr : (Instr.lookup t (.map none) (.int .i64 k) false).run P w = .ok (.bool false) w := by
    unfold Instr.lookup
    rw [Sem.run_bind, run_underlying hu]
    have := run_findKey (P := P) hk [] k w
    simp only [Result.andThen_ok, Sem.run_bind, Sem.run_pure, run_checkKey hk]
    rw [show (Instr.findKey kt (Value.int IntKind.i64 k) []).run P w = .ok none w from this]
    simp [run_zeroValue hz]
  simp only [execOp, ha.eval hx, ha.eval hy]
  rw [Sem.run_bind, hr]
  rfl
theorem op_makeMap (hd : dok d n = true) (k : ∀ b, K (put E d (.map (some b))) ([(b, mapO [] 0)] :: H)) : OpW P n w0 Q ⟨d, .makeMap t none, ty, ps, af, g⟩ E H K := op_run hd fun a w ha hw => by
  refine ⟨.map (some w.heap.size), w.alloc (.map #[] 0), _, ?_, hw.alloc _, k _⟩
  rfl
theorem modify_same {ks : List (Int × Nat)} {k : Int} {i : Nat} (h : ks.findIdx? (·.1 == k) = some i) (e : MapEntry → MapEntry) (he : ∀ b, e (me (k, b)) = me (k, b)) : (ks.map me).toArray.modify i e = (ks.map me).toArray := by
  obtain ⟨hi, hp, _⟩ := List.findIdx?_eq_some_iff_getElem.1 h
  apply Array.ext
  · simp
  · intro j h1 h2
    rw [Array.getElem_modify]
    split
    · rename_i e2
      subst e2
      have : ks[i] = (k, (ks[i]).2) := by
        have : (ks[i]).1 = k := by simpa using hp
        rw [← this]
      simp only [List.getElem_toArray, List.getElem_map]
      rw [this]
      exact he _
    · rfl
theorem op_mapUpdate {kt et r ck : Nat} {ks : List (Int × Nat)} {k : Int} {v : Operand} (s j : Nat) (hx : ev E x = some (.map (some r))) (hy : ev E y = some (.int .i64 k)) (hv : ev E v = some (.bool true)) (hu : P.underlying t = some (.map kt et)) (hk : P.underlying kt = some (.int .i64))
    (hH : getH H s j = some (r, mapO ks ck)) (hd : dok d n = true) (kk : K (put E d undef) (setH H s j (mapO (kPut ks ck k) (kClk ks ck k)))) :
    OpW P n w0 Q ⟨d, .mapUpdate t x y v, ty, ps, af, g⟩ E H K := op_runs hd fun a w ha hw => by
  have h := hw.has _ (getH_mem hH)
  have hg := run_getMap (P := P) h
  refine ⟨_, _, ?_, hw.putB hH _, kk⟩
  have hset : ∀ o, (setObj r o).run P w = .ok () (putB w r o) := fun o => run_setMap h o
  have hr : (Instr.mapUpdate t (.map (some r)) (.int .i64 k) (.bool true)).run P w = .ok () (putB w r (mapO (kPut ks ck k) (kClk ks ck k))) := by
    unfold Instr.mapUpdate
    rw [Sem.run_bind, run_underlying hu]
    simp only [Result.andThen_ok, Sem.run_bind, hg, run_checkKey hk, run_findKey hk]
    cases hi : ks.findIdx? (·.1 == k) with
    | none =>
      have hf : kHas ks k = false := by rw [has_idx, hi]; rfl
      simp only [Option.map_none, hset, kPut, kClk, hf, Bool.false_eq_true, if_false]
      congr 2
      simp [me]
    | some i =>
      have hf : kHas ks k = true := by rw [has_idx, hi]; rfl
      obtain ⟨hlt, hp, _⟩ := List.findIdx?_eq_some_iff_getElem.1 hi
      have hke : (ks[i]).1 = k := by simpa using hp
      have hkey : ((((ks.map me).toArray[i]?).map (·.key)).getD (Value.int .i64 k)) = .int .i64 k := by
        simp [hlt, me, hke]
      simp only [Option.map_some, Sem.run_bind, hkey, Instr.keyThatStays]
      rw [show Instr.sameBits 10000 (Value.int .i64 k) (Value.int .i64 k) = true from by simp [Instr.sameBits]]
      simp only [if_true, Sem.run_pure, Result.andThen_ok, hset, kPut, kClk, hf]
      congr 2
      rw [modify_same hi]
      intro b; rfl
  simp only [execOp, ha.eval hx, ha.eval hy, ha.eval hv]
  rw [Sem.run_bind, hr]
  rfl
theorem map_eraseIdx {α β : Type} (f : α → β) : ∀ (l : List α) (i : Nat), (l.map f).eraseIdx i = (l.eraseIdx i).map f
  | [], _ => rfl
  | _ :: _, 0 => rfl
  | a :: l, i + 1 => by simp [map_eraseIdx f l i]
theorem op_delete {kt et r ck : Nat} {ks : List (Int × Nat)} {k : Int} {t0 : TypeId} {tys : Array TypeId} (s j : Nat) (hx : ev E x = some (.map (some r))) (hy : ev E y = some (.int .i64 k)) (h0 : tys[0]? = some t0) (hu : P.underlying t0 = some (.map kt et)) (hk : P.underlying kt = some (.int .i64))
    (hH : getH H s j = some (r, mapO ks ck)) (hd : dok d n = true) (kk : K (put E d (.tuple #[])) (setH H s j (mapO (kDel ks k) ck))) :
    OpW P n w0 Q ⟨d, .call { callee := .builtin .delete, args := [x, y].toArray, argTypes := tys }, ty, ps, af, g⟩ E H K := op_run hd fun a w ha hw => by
  have h := hw.has _ (getH_mem hH)
  have hg := run_getMap (P := P) h
  have hset : ∀ o, (setObj r o).run P w = .ok () (putB w r o) := fun o => run_setMap h o
  refine ⟨_, _, _, ?_, hw.putB hH _, kk⟩
  have hev := evals (n := n) (E := E) ha (l := [x, y]) (vs := [.map (some r), .int .i64 k]) (by simp [hx, hy])
  have hr : (Builtin.delete_ tys ty #[.map (some r), .int .i64 k]).run P w = .ok (.tuple #[]) (putB w r (mapO (kDel ks k) ck)) := by
    have q1 : (#[Value.map (some r), .int .i64 k] : Array Value)[0]? = some (.map (some r)) := rfl
    have q2 : (#[Value.map (some r), .int .i64 k] : Array Value)[1]? = some (.int .i64 k) := rfl
    unfold Builtin.delete_
    simp only [h0, q1, q2]
    rw [Sem.run_bind, run_underlying hu]
    simp only [Result.andThen_ok, Sem.run_bind, hg, run_checkKey hk, run_findKey hk]
    cases hi : ks.findIdx? (·.1 == k) with
    | none => simp only [Option.map_none, Sem.run_bind, hset, kDel, hi, Result.andThen_ok, Sem.run_pure]
    | some i =>
      obtain ⟨hlt, _⟩ := List.findIdx?_eq_some_iff_getElem.1 hi
      have he : ((ks.map me).toArray.eraseIdxIfInBounds i) = (List.map me (ks.eraseIdx i)).toArray := by
        simp [Array.eraseIdxIfInBounds, hlt, map_eraseIdx]
      simp only [Option.map_some, Sem.run_bind, he, hset, kDel, hi, Result.andThen_ok, Sem.run_pure]
  simp only [execOp, resolve, Sem.run_bind, Sem.run_pure, Result.andThen_ok, invoke, List.map_toArray, hev, builtin]
  rw [show ([Value.map (some r), .int .i64 k].toArray) = #[Value.map (some r), .int .i64 k] from rfl, hr]
  rfl
end Go.Sl

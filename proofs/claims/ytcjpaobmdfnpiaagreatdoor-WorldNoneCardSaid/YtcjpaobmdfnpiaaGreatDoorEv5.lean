/- An evaluator of programs by terms that the kernel reduces, and the laws that it tells the truth. Conditions: none. -/
import Derived.Scope
import Derived.Orders
import Derived.Test.YtcjpaobmdfnpiaaGreatDoorEv4
set_option linter.all false
section
/- Ev, soundness, part 42: statements. Conditions: none. -/
namespace Go.Ev
set_option linter.unusedVariables false
variable {P : Program} {rv : RV} {rh : H}

theorem GWp.scope {d : Bool} {c : Code} {Q : GQ} {a : Act} {u : FrameMode} {w : World} (h : GWp P d c Q a u w) (hq : ∀ l a u w, ¬ Q (.goto l) a u w) : GWp P d (.scope c) Q a u w := by
  intro b k c₀ cs hb
  obtain ⟨e, a₁, u₁, w₁, q, harr⟩ := h b (.inScope c :: k) c₀ cs hb
  cases e with
  | normal => exact ⟨.normal, a₁, u₁, w₁, q, .head step_scope (Steps.trans harr (.one step_inScope))⟩
  | exit id => exact ⟨.exit id, a₁, u₁, w₁, q, fun k' hk => .head step_scope (harr k' (by simp [exitTo, hk]))⟩
  | goto l => exact absurd q (hq _ _ _ _)
  | ret => exact ⟨_, a₁, u₁, w₁, q, .of_steps (.one step_scope) harr⟩
  | panic ch => exact ⟨_, a₁, u₁, w₁, q, .of_steps (.one step_scope) harr⟩
  | outgrown => exact ⟨_, a₁, u₁, w₁, q, .of_steps (b := b) (k := k) (cs := stk d c₀ u₁ cs) (e := .outgrown) (.one step_scope) harr⟩

noncomputable def B.q (b : B) : Q := B.rec (motive := fun _ => Q) (fun q _ _ _ => q) b
noncomputable def B.hk (b : B) : Hk := B.rec (motive := fun _ => Hk) (fun _ hk _ _ => hk) b

section
variable {dm : Option Md} {keep N : Nat} {ρ ρ' : Rho} {h h' : H} {w w' : World} {kN kN' : KE} {kX kX' : Nat → KE} {kR : KE} {kP : KQ}
theorem Post.trans (s : St ρ h w ρ' h' w') {e : Exit} {a : Act} {u : FrameMode} {w2 : World} (p : Post P rv rh dm keep N ρ' h' w' kN kX kR kP e a u w2) : Post P rv rh dm keep N ρ h w kN kX kR kP e a u w2 := by
  cases e with
  | normal => obtain ⟨e, fr, h2, ρ2, h1, h3, h4⟩ := p; exact ⟨e, fr, h2, ρ2, h1, h3, s.trans h4⟩
  | exit id => obtain ⟨e, fr, h2, ρ2, h1, h3, h4⟩ := p; exact ⟨e, fr, h2, ρ2, h1, h3, s.trans h4⟩
  | ret => obtain ⟨e, fr, h2, ρ2, h1, h3, h4⟩ := p; exact ⟨e, fr, h2, ρ2, h1, h3, s.trans h4⟩
  | panic ch => obtain ⟨e, fr, c, v, h2, ρ2, h0, h1, h3, h4, h5⟩ := p; exact ⟨e, fr, c, v, h2, ρ2, h0, h1, h3, s.trans h4, h5⟩
  | goto l => exact p
  | outgrown => exact p
end

/-- A region does what the evaluator says of it. -/
def RegionOk (P : Program) (dm : Option Md) (N : Nat) (b : B) (id : Nat) (os : Array Oper) (draw : Bool) : Prop :=
  ∀ {rv : RV} {rh : H} {ρ : Rho} {e : Env} {fr : F} {h : H} {a : Act} {u : FrameMode} {w : World} {kN : KE} {kX : Nat → KE} {kR : KE} {kP : KQ},
    FrR P dm b.q.keep N ρ .nil e fr h a u w → cRegion id os.toList draw b e fr h kN kX kR kP = .ok rv rh → GWp P dm.isSome (.region id os draw) (Post P rv rh dm b.q.keep N ρ h w kN kX kR kP) a u w
/-- A block that is answered by itself does what the evaluator says of it. -/
def HookC (P : Program) (dm : Option Md) (N : Nat) (b : B) (id : Nat) (c : Code) : Prop :=
  ∀ {rv : RV} {rh : H} {ρ : Rho} {e : Env} {fr : F} {h : H} {a : Act} {u : FrameMode} {w : World} {kN : KE} {kX : Nat → KE} {kR : KE} {kP : KQ} {it p off sz : Nat} {ts : List Nat},
    b.hk = .copy id it p off sz ts → FrR P dm b.q.keep N ρ .nil e fr h a u w → copyLoop it p off sz ts e h (fun h => kN e fr h) = .ok rv rh → GWp P dm.isSome (.block id c) (Post P rv rh dm b.q.keep N ρ h w kN kX kR kP) a u w
def HookA (P : Program) (dm : Option Md) (N : Nat) (b : B) (id : Nat) (c : Code) : Prop :=
  ∀ {rv : RV} {rh : H} {ρ : Rho} {e : Env} {fr : F} {h : H} {a : Act} {u : FrameMode} {w : World} {kN : KE} {kX : Nat → KE} {kR : KE} {kP : KQ} {f : Env → F → H → KE → RT},
    b.hk = .alt id f → FrR P dm b.q.keep N ρ .nil e fr h a u w → f e fr h kN = .ok rv rh → GWp P dm.isSome (.block id c) (Post P rv rh dm b.q.keep N ρ h w kN kX kR kP) a u w
structure HookOk (P : Program) (dm : Option Md) (N : Nat) (b : B) (id : Nat) (c : Code) : Prop where
  cp : HookC P dm N b id c
  alt : HookA P dm N b id c
/-- All regions and blocks of a code do. -/
def CodeOk (P : Program) (dm : Option Md) (N : Nat) (b : B) : Code → Prop
  | .region id os draw => RegionOk P dm N b id os draw
  | .seq x y => CodeOk P dm N b x ∧ CodeOk P dm N b y
  | .cond _ x y => CodeOk P dm N b x ∧ CodeOk P dm N b y
  | .block id x => HookOk P dm N b id x ∧ CodeOk P dm N b x
  | .loop x => CodeOk P dm N b x
  | .scope x => CodeOk P dm N b x
  | _ => True

/-- A code does what the evaluator says of it. -/
def CodeSound (P : Program) (dm : Option Md) (N : Nat) (b : B) (f : CT) (c : Code) : Prop :=
  ∀ {rv : RV} {rh : H} {ρ : Rho} {e : Env} {fr : F} {h : H} {a : Act} {u : FrameMode} {w : World} {kN : KE} {kX : Nat → KE} {kR : KE} {kP : KQ},
    FrR P dm b.q.keep N ρ .nil e fr h a u w → f b e fr h kN kX kR kP = .ok rv rh →
      GWp P dm.isSome c (Post P rv rh dm b.q.keep N ρ h w kN kX kR kP) a u w ∧ ∀ c', c = .loop c' → againG P dm.isSome c' (Post P rv rh dm b.q.keep N ρ h w kN kX kR kP) a u w

theorem hookK_ok {hk : Hk} {id : Nat} {e : Env} {fr : F} {h : H} {k : KE} {kn : RT} (e1 : hookK hk id e fr h k kn = .ok rv rh) : (∃ it p off sz ts, hk = .copy id it p off sz ts ∧ copyLoop it p off sz ts e h (fun h => k e fr h) = .ok rv rh) ∨ (∃ f, hk = .alt id f ∧ f e fr h k = .ok rv rh) ∨ kn = .ok rv rh := by
  cases hk with
  | no => exact .inr (.inr e1)
  | copy i it p off sz ts =>
    rcases ifB_ok (b := Nat.beq i id) e1 with ⟨h1, e2⟩ | ⟨_, e2⟩
    · have := Nat.eq_of_beq_eq_true h1; subst this; exact .inl ⟨it, p, off, sz, ts, rfl, e2⟩
    · exact .inr (.inr e2)
  | alt i f =>
    rcases ifB_ok (b := Nat.beq i id) e1 with ⟨h1, e2⟩ | ⟨_, e2⟩
    · have := Nat.eq_of_beq_eq_true h1; subst this; exact .inr (.inl ⟨f, rfl, e2⟩)
    · exact .inr (.inr e2)

theorem condK_ok {q : Q} {ρ : Rho} {e : Env} {a : Act} {c : Operand} {k : Bool → RT} (hg : GlobR ρ) (he : ER q.keep ρ .nil e a.tmps) (e1 : condK q e c k = .ok rv rh) : ∃ t, a.eval c = .bool t ∧ k t = .ok rv rh := by
  obtain ⟨x, e2, hx⟩ := valK_ok hg he (o := c) (.all c) e1
  obtain ⟨cc, rfl, e3⟩ := onS_ok e2
  obtain ⟨b, rfl, e4⟩ := onBool_ok e3
  exact ⟨b, hx.scalar.bool, e4⟩

theorem codeE_ok {dm : Option Md} {N : Nat} {b : B} {again : Code → CT} (ha : ∀ c, CodeOk P dm N b c → CodeSound P dm N b (again c) c) : ∀ c, CodeOk P dm N b c → CodeSound P dm N b (codeE again c) c := by
  intro c
  induction c with
  | skip => intro _ rv rh ρ e fr h a u w kN kX kR kP f e1; exact ⟨.skip ⟨e, fr, h, ρ, e1, f, St.refl _ _ _⟩, fun c' h => by cases h⟩
  | region id os draw => intro hok rv rh ρ e fr h a u w kN kX kR kP f e1; exact ⟨hok f e1, fun c' h => by cases h⟩
  | seq x y ihx ihy =>
    intro hok rv rh ρ e fr h a u w kN kX kR kP f e1
    have e2 : codeE again x b e fr h (fun e fr h => codeE again y b e fr h kN kX kR kP) kX kR kP = .ok rv rh := e1
    refine ⟨.seq ((ihx hok.1 f e2).1.mono fun ex a' u' w' p => ?_), fun c' h => by cases h⟩
    cases ex with
    | normal =>
      obtain ⟨e', fr', h', ρ', e3, f', s'⟩ := p
      exact ((ihy hok.2 f' e3).1).mono fun ex a u w p => Post.trans s' p
    | _ => exact p
  | cond c x y ihx ihy =>
    intro hok rv rh ρ e fr h a u w kN kX kR kP f e1
    refine ⟨?_, fun c' h => by cases h⟩
    cases b with
    | mk q hk dr rs =>
    have e2 : condK q e c (fun t => (Bool.rec (motive := fun _ => CT) (codeE again y) (codeE again x) t : CT) (.mk q hk dr rs) e fr h kN kX kR kP) = .ok rv rh := e1
    obtain ⟨t, ht, e3⟩ := condK_ok f.glob f.env e2
    refine .cond ht ?_
    cases t with
    | true => exact (ihx hok.1 f e3).1
    | false => exact (ihy hok.2 f e3).1
  | block id x ih =>
    intro hok rv rh ρ e fr h a u w kN kX kR kP f e1
    refine ⟨?_, fun c' h => by cases h⟩
    have e2 : hookK b.hk id e fr h kN (codeE again x b e fr h kN (fun i => Bool.rec (motive := fun _ => KE) (kX i) kN (Nat.beq i id)) kR kP) = .ok rv rh := by
      cases b with
      | mk q hk dr rs => exact e1
    rcases hookK_ok e2 with ⟨it, p, off, sz, ts, hhk, e3⟩ | ⟨g, hhk, e3⟩ | e3
    · exact hok.1.cp hhk f e3
    · exact hok.1.alt hhk f e3
    · refine .block (((ih hok.2 f e3).1).mono fun ex a' u' w' p => ?_)
      cases ex with
      | exit id' =>
        obtain ⟨e', fr', h', ρ', e4', f', s'⟩ := p
        have e4 : (Bool.rec (motive := fun _ => KE) (kX id') kN (Nat.beq id' id) : KE) e' fr' h' = .ok rv rh := e4'
        show if id' = id then _ else _
        by_cases hid : id' = id
        · rw [if_pos hid]
          have : Nat.beq id' id = true := by rw [hid]; simp
          rw [this] at e4
          exact ⟨e', fr', h', ρ', e4, f', s'⟩
        · rw [if_neg hid]
          have : Nat.beq id' id = false := by rw [beq_dec]; simp [hid]
          rw [this] at e4
          exact ⟨e', fr', h', ρ', e4, f', s'⟩
      | _ => exact p
  | loop x ih =>
    intro hok rv rh ρ e fr h a u w kN kX kR kP f e1
    have e2 : codeE again x b e fr h (fun e fr h => again (.loop x) b e fr h kN kX kR kP) kX kR kP = .ok rv rh := e1
    have key : GWp P dm.isSome x (thenG (againG P dm.isSome x (Post P rv rh dm b.q.keep N ρ h w kN kX kR kP)) (Post P rv rh dm b.q.keep N ρ h w kN kX kR kP)) a u w := by
      refine ((ih hok f e2).1).mono fun ex a' u' w' p => ?_
      cases ex with
      | normal =>
        obtain ⟨e', fr', h', ρ', e3, f', s'⟩ := p
        exact ((ha (.loop x) hok f' e3).2 x rfl).mono fun ex a u w p => Post.trans s' p
      | _ => exact p
    exact ⟨.loop key, fun c' h => by cases h; exact .step key⟩
  | rangeFunc => intro _ rv rh ρ e fr h a u w kN kX kR kP f e1; cases e1
  | exit id => intro _ rv rh ρ e fr h a u w kN kX kR kP f e1; exact ⟨.exit ⟨e, fr, h, ρ, e1, f, St.refl _ _ _⟩, fun c' h => by cases h⟩
  | scope x ih =>
    intro hok rv rh ρ e fr h a u w kN kX kR kP f e1
    exact ⟨.scope ((ih hok f e1).1) (fun l a u w h => h), fun c' h => by cases h⟩
  | label l => intro _ rv rh ρ e fr h a u w kN kX kR kP f e1; exact ⟨.label ⟨e, fr, h, ρ, e1, f, St.refl _ _ _⟩, fun c' h => by cases h⟩
  | goto l => intro _ rv rh ρ e fr h a u w kN kX kR kP f e1; cases e1
  | ret => intro _ rv rh ρ e fr h a u w kN kX kR kP f e1; exact ⟨.ret ⟨e, fr, h, ρ, e1, f, St.refl _ _ _⟩, fun c' h => by cases h⟩
  | refuse s => intro _ rv rh ρ e fr h a u w kN kX kR kP f e1; cases e1

theorem codeR_ok {dm : Option Md} {N : Nat} {b : B} : ∀ n c, CodeOk P dm N b c → CodeSound P dm N b (codeR n c) c := by
  intro n
  induction n with
  | zero => intro c _ rv rh ρ e fr h a u w kN kX kR kP f e1; cases e1
  | succ n ih => intro c hok; exact codeE_ok ih c hok
end Go.Ev
end
section
/- Ev, soundness, part 43: results; deferred calls; calls. Conditions: none. -/
namespace Go.Ev
set_option linter.unusedVariables false
variable {P : Program} {rv : RV} {rh : H}

/-! ### parameters and results -/
theorem paramE_look : ∀ {args : List RV} {n t : Nat}, (paramE args n).look t = if n ≤ t then args[t - n]? else none
  | [], n, t => by show none = _; simp
  | x :: l, n, t => by
    show (if n = t then some x else (paramE l (n + 1)).look t) = _
    rw [paramE_look]
    by_cases h : n = t
    · subst h; simp
    · rw [if_neg h]
      by_cases h2 : n ≤ t
      · rw [if_pos h2, if_pos (by omega), show t - n = (t - (n + 1)) + 1 by omega]; simp
      · rw [if_neg h2, if_neg (by omega)]
theorem RRs.get {ρ : Rho} {l : List RV} {m : List Value} (h : RRs ρ l m) : ∀ {i : Nat} {x : RV}, l[i]? = some x → ∃ v, m[i]? = some v ∧ RR ρ x v := by
  induction h with
  | nil => intro i x h; cases h
  | cons y v l m e _ ih =>
    intro i x h
    cases i with
    | zero => cases h; exact ⟨v, rfl, e⟩
    | succ i => simpa using ih (i := i) (by simpa using h)
/-- A fresh activation. -/
theorem ER.params {keep : Nat} {ρ : Rho} {args : List RV} {vs : List Value} (h : RRs ρ args vs) (n : Nat) : ER keep ρ .nil (paramE args 0) (vs.toArray ++ Array.replicate n undef) := by
  intro t x _ h1'
  have h1 : (paramE args 0).look t = some x := by
    unfold cur at h1'
    by_cases hk : kept keep t = true
    · rw [if_pos hk] at h1'; exact h1'
    · rw [if_neg hk] at h1'; cases h1'
  rw [paramE_look, if_pos (Nat.zero_le _), Nat.sub_zero] at h1
  obtain ⟨v, h2, h3⟩ := h.get h1
  have hlt : t < vs.length := (List.getElem?_eq_some_iff.1 h2).1
  have : (vs.toArray ++ Array.replicate n undef).getD t undef = v := by
    rw [Array.getD_eq_getD_getElem?, Array.getElem?_append_left (by simpa using hlt)]
    have : vs.toArray[t]? = some v := by simpa using h2
    rw [this]; rfl
  rw [this]; exact h3

/-- The results' temporaries live beyond their regions. -/
def ResKept (keep : Nat) (f : Func) : Prop := ∀ r ∈ f.results.toList, match r with | .tmp t => kept keep t = true | .cell a _ => kept keep a = true
theorem oneOr_rel {ρ : Rho} {l : List RV} {m : List Value} (h : RRs ρ l m) : RR ρ (oneOr l) (if h : m.toArray.size = 1 then m.toArray[0] else .tuple m.toArray) := by
  have tup : ∀ {l : List RV} {m : List Value}, RRs ρ l m → TR ρ (tupR l) m := fun {l m} h => by
    induction h with
    | nil => exact .u
    | cons x v l m e _ ih => exact .p x _ v m e ih
  cases h with
  | nil => exact .t _ _ .u
  | cons x v l m e e' =>
    cases e' with
    | nil => exact e
    | cons y u l m e2 e3 =>
      rw [dif_neg (by simp)]
      exact .t _ _ (.p _ _ _ _ e (.p _ _ _ _ e2 (tup e3)))
def resF (tmps : Array Value) : ResultVar → Sem Value
  | .tmp t => pure (tmps.getD t undef)
  | .cell a t => do loadVar t (← asAddr (tmps.getD a undef))
theorem results_eq (f : Func) (tmps : Array Value) : results f tmps = (do
  let vs ← f.results.mapM (resF tmps)
  pure (if h : vs.size = 1 then vs[0] else .tuple vs)) := by
  unfold results
  congr 1
theorem resE_ok {cx : Cx} (hcx : CxOk P cx) {keep : Nat} {ρ : Rho} {e : Env} {h : H} {w : World} {tmps : Array Value} (r : HR P ρ h w) (he : ER keep ρ .nil e tmps) : ∀ {l : List ResultVar} {k : List RV → RT}, (∀ r ∈ l, match r with | .tmp t => kept keep t = true | .cell a _ => kept keep a = true) → resE cx e h l k = .ok rv rh →
    ∃ xs vs, k xs = .ok rv rh ∧ RRs ρ xs vs ∧ (l.mapM (resF tmps)).run P w = .ok vs w := by
  intro l
  induction l with
  | nil => intro k _ e1; exact ⟨[], [], e1, .nil, rfl⟩
  | cons x l ih =>
    intro k hk e1
    have hk' := fun r hr => hk r (.tail _ hr)
    cases x with
    | tmp t =>
      obtain ⟨v, h1, e2⟩ := Env.getK_ok (e := e) (k := fun v => resE cx e h l fun vs => k (v :: vs)) e1
      have hv := he t v trivial (by unfold cur; rw [if_pos (hk _ (.head _))]; exact h1)
      obtain ⟨xs, vs, e3, h2, h3⟩ := ih hk' e2
      exact ⟨v :: xs, _ :: vs, e3, .cons _ _ _ _ hv h2, by simp [resF, h3]⟩
    | cell a t =>
      obtain ⟨v, h1, e2⟩ := Env.getK_ok (e := e) (k := fun v => onPlace v fun b o => loadK cx t b o h fun v => resE cx e h l fun vs => k (v :: vs)) e1
      have hv := he a v trivial (by unfold cur; rw [if_pos (hk _ (.head _))]; exact h1)
      obtain ⟨b, o, rfl, e3⟩ := onPlace_ok e2
      obtain ⟨blk, base, ex, hρ, hva⟩ := hv.place
      obtain ⟨y, u, hy, e4, hrun⟩ := loadK_ok hcx r hρ e3
      obtain ⟨xs, vs, e5, h2, h3⟩ := ih hk' e4
      refine ⟨y :: xs, u :: vs, e5, .cons _ _ _ _ hy h2, ?_⟩
      simp only [Array.getD_eq_getD_getElem?] at hva
      simp [resF, hva, asAddr, hrun, h3]
theorem results_ok {f : Func} {tmps : Array Value} {w : World} {vs : List Value} (h : (f.results.toList.mapM (resF tmps)).run P w = .ok vs w) :
    (results f tmps).run P w = .ok (if h : vs.toArray.size = 1 then vs.toArray[0] else .tuple vs.toArray) w := by
  rw [results_eq, Array.mapM_eq_mapM_toList]
  simp [h]
end Go.Ev
end
section
/- Ev, soundness, part 44: deferred calls; calls. Conditions: none. -/
namespace Go.Ev
set_option linter.unusedVariables false
variable {P : Program} {rv : RV} {rh : H}

/-- A function of the tables: it is the program's, and its code does what the evaluator says of it, as a call and as a deferred call. -/
structure FnOk (P : Program) (cx : Cx) (f : Nat) (fn : Func) (hk : Hk) (keep : Nat) (dr : Drs) (rs : Rs) : Prop where
  func : P.funcs[f]? = some fn
  name : (fn.name == "runtime.NumGoroutine") = false
  res : ResKept keep fn
  code : ∀ c, fn.body = some c → ∀ call, CallOk P call → ∀ N, fn.ntmps ≤ N → CodeOk P none N (.mk (.mk cx call keep) hk dr rs) c ∧ ∀ md, CodeOk P (some md) N (.mk (.mk cx call keep) .no dr .nil) c
/-- The tables are the program's. -/
structure TabOk (P : Program) (cx : Cx) (tb : Tb) : Prop where
  ok : CxOk P cx
  fields : FieldsOk P
  fns : ∀ f fn hk keep dr rs, cx.fnAt f = some (.fn fn hk keep dr rs) → FnOk P cx f fn (hkOf tb hk) keep dr rs
  exts : ∀ f j, cx.fnAt f = some (.ext j) → ∀ {rv : RV} {rh : H} {ρ : Rho} {h : H} {w : World} {args : List RV} {vs : List Value} {k : KV} {kp : KP}, HR P ρ h w → RRs ρ args vs →
    ifB (Nat.blt j 100) (xOf j cx args h k) (lbOf (lbAt tb (j - 100)) cx args h k) = .ok rv rh → NextOk P rv rh ρ h w k kp ((callFunc f vs.toArray).run P w)

theorem run_callFunc_body {f : FuncId} {fn : Func} {c : Code} (hf : P.funcs[f]? = some fn) (hname : (fn.name == "runtime.NumGoroutine") = false) (hb : fn.body = some c) (args : Array Value) (w : World) :
    (callFunc f args).run P w = .ok (.enter f args) w := by
  have h1 : fn.name ≠ "runtime.NumGoroutine" := by simpa using hname
  simp [callFunc, hf, h1, hb]
theorem entK_ok {cx : Cx} {f : Nat} {k : Entry → RT} (e : entK cx f k = .ok rv rh) : ∃ x, cx.fnAt f = some x ∧ k x = .ok rv rh := by
  cases cx with
  | mk fn ty ls => exact onSome_ok (o := fn.get f) e

/-- How a frame unwinds. -/
def UR (ρ : Rho) : Md → FrameMode → Prop
  | .ret, u => u = .returning
  | .pan v, u => ∃ x, CR ρ v x ∧ u = .panicking [{ v := x, recovered := false }]
theorem UR.mono {ρ ρ' : Rho} (hs : ρ.sub ρ') {md : Md} {u : FrameMode} (h : UR ρ md u) : UR ρ' md u := by
  cases md with
  | ret => exact h
  | pan v => obtain ⟨x, h1, h2⟩ := h; exact ⟨x, VR.mono hs h1, h2⟩

theorem endD_ok {ρ : Rho} {md : Md} {fr : F} {u : FrameMode} {ds : List Deferred} {k : Md → RT} (hd : DsR ρ fr.ds ds) (hr : RcR (some md) ρ fr.rc u) (e : endD md fr k = .ok rv rh) : ds = [] ∧ ∃ md', k md' = .ok rv rh ∧ UR ρ md' (settle u) := by
  cases fr with
  | mk d rc =>
  cases d with
  | cons f args t => cases e
  | nil =>
    have hd' : DsR ρ .nil ds := hd
    cases hd'
    refine ⟨rfl, ?_⟩
    have e1 : mdOf md rc k = .ok rv rh := e
    cases md with
    | ret =>
      obtain ⟨h1, h2⟩ := hr
      subst h2
      exact ⟨.ret, e1, rfl⟩
    | pan v =>
      obtain ⟨x, hx, h1 | h1⟩ := hr
      · obtain ⟨h1, h2⟩ := h1
        have h1' : rc = .pend v := h1
        subst h1'; subst h2
        exact ⟨.pan v, e1, x, hx, rfl⟩
      · obtain ⟨h1, h2⟩ := h1
        have h1' : rc = .done := h1
        subst h1'; subst h2
        exact ⟨.ret, e1, rfl⟩

theorem noRes_ok {f : Func} {k : RT} (e : noRes f k = .ok rv rh) : f.results.toList = [] ∧ k = .ok rv rh := by
  have e' : (List.rec (motive := fun _ => RT) k (fun _ _ _ => .err "a deferred call with results") f.results.toList : RT) = .ok rv rh := e
  cases h : f.results.toList with
  | nil => rw [h] at e'; exact ⟨rfl, e'⟩
  | cons x l => rw [h] at e'; cases e'

theorem enter_size (vs : List Value) (fn : Func) : fn.ntmps ≤ (vs.toArray ++ Array.replicate (fn.ntmps - vs.toArray.size) undef).size := by simp; omega

theorem deferE_ok {cx : Cx} {tb : Tb} (tab : TabOk P cx tb) {call : CallT} (hcall : CallOk P call) {ρ : Rho} {h : H} {w : World} {f : Ce} {fv : Fn} {first cap : Array Value} {args : List RV} {vs : List Value} {md : Md} {u : FrameMode} {k : Md → H → RT} (r : HR P ρ h w) (hf : CR ρ f (.func fv first cap)) (ha : RRs ρ args vs) (hu : UR ρ md u)
    (e : deferE cx call f args md h k = .ok rv rh) :
    ∃ g fargs, (invoke (.fn fv cap) (first ++ vs.toArray)).run P w = .ok (.enter g fargs) w ∧ CallsD P g fargs u w fun en u' w' => match en with
      | .returned _ => ∃ md' h' ρ', k md' h' = .ok rv rh ∧ UR ρ' md' (settle u') ∧ HR P ρ' h' w' ∧ St ρ h w ρ' h' w'
      | _ => False := by
  obtain ⟨fn, first', cap', rfl, e1⟩ := onFn_ok e
  have hf' : VR ρ (.func fn first' cap') (.func fv first cap) := hf
  cases hf' with
  | fn _ _ _ _ _ h1 h2 =>
  cases fv with
  | func g =>
    obtain ⟨x, hx, e2⟩ := entK_ok e1
    cases x with
    | ext j => cases e2
    | fn fN hk keep dr rs =>
    have ok := tab.fns g fN hk keep dr rs hx
    obtain ⟨hres, e3⟩ := noRes_ok (f := fN) e2
    obtain ⟨c, hb, e4⟩ := onSome_ok e3
    obtain ⟨xs, e5, hxs⟩ := toRVsK_ok h1 e4
    obtain ⟨ys, e6, hys⟩ := toRVsK_ok h2 e5
    rw [rapp_eq, rapp_eq] at e6
    have hargs : (first.toList ++ (vs ++ cap.toList)).toArray = first ++ vs.toArray ++ cap := by apply Array.ext'; simp
    have hall := hxs.append (ha.append hys)
    refine ⟨g, first ++ vs.toArray ++ cap, ?_, ?_⟩
    · simp only [invoke]
      exact run_callFunc_body ok.func ok.name hb _ w
    · rw [← hargs]
      refine callsD_of_wpS ok.func hb fun c₀ cs hc₀ => ?_
      have hcode := (ok.code c hb call hcall _ (enter_size (first.toList ++ (vs ++ cap.toList)) fN)).2 md
      have hfr : FrR P (some md) keep ((first.toList ++ (vs ++ cap.toList)).toArray ++ Array.replicate (fN.ntmps - (first.toList ++ (vs ++ cap.toList)).toArray.size) undef).size ρ .nil (paramE (xs ++ (args ++ ys)) 0) (.mk .nil (rcOf md)) h
          { tmps := (first.toList ++ (vs ++ cap.toList)).toArray ++ Array.replicate (fN.ntmps - (first.toList ++ (vs ++ cap.toList)).toArray.size) undef, defers := [] } u w := by
        refine ⟨r, r.glob, ER.params hall _, rfl, .nil, ?_⟩
        cases md with
        | ret => exact ⟨rfl, hu⟩
        | pan v => obtain ⟨x, q1, q2⟩ := hu; exact ⟨x, q1, .inl ⟨rfl, q2⟩⟩
      have hg2 := (codeR_ok rounds c hcode hfr e6).1
      intro b k' hbk hbr
      obtain ⟨ex, a', u', w', hq, harr⟩ := hg2 b k' c₀ cs (fun _ => ⟨hbk, hbr⟩)
      have hst : stk true c₀ u cs = c₀ :: cs := by subst hc₀; rfl
      have harr' : Arrives P (lone (b.at { tmps := (first.toList ++ (vs ++ cap.toList)).toArray ++ Array.replicate (fN.ntmps - (first.toList ++ (vs ++ cap.toList)).toArray.size) undef, defers := [] } (.code c :: k')) (c₀ :: cs) w) b k' ({ c₀ with mode := u' } :: cs) ex a' w' := by
        rw [← hst]; exact harr
      have fin : ∀ {fr : F} {h' : H} {ρ' : Rho} {e' : Env}, endD md fr (fun md => k md h') = .ok rv rh → FrR P (some md) keep ((first.toList ++ (vs ++ cap.toList)).toArray ++ Array.replicate (fN.ntmps - (first.toList ++ (vs ++ cap.toList)).toArray.size) undef).size ρ' .nil e' fr h' a' u' w' → St ρ h w ρ' h' w' →
          a'.defers = [] ∧ ∃ u'', { c₀ with mode := u' } :: cs = { c₀ with mode := u'' } :: cs ∧ ∃ v, (results fN a'.tmps).run P w' = .ok v w' ∧ ∃ md' h' ρ', k md' h' = .ok rv rh ∧ UR ρ' md' (settle u'') ∧ HR P ρ' h' w' ∧ St ρ h w ρ' h' w' := fun {fr h' ρ' e'} e7 f' s' => by
        obtain ⟨hd, md', e8, hur⟩ := endD_ok f'.ds f'.rc e7
        refine ⟨hd, u', rfl, _, results_ok (vs := []) (by rw [hres]; rfl), md', h', ρ', e8, hur, f'.hr, s'⟩
      cases ex with
      | normal => obtain ⟨e', fr, h', ρ', e7, f', s'⟩ := hq; exact ⟨.normal, a', _, w', fin e7 f' s', harr'⟩
      | ret => obtain ⟨e', fr, h', ρ', e7, f', s'⟩ := hq; exact ⟨.ret, a', _, w', fin e7 f' s', harr'⟩
      | exit id => obtain ⟨e', fr, h', ρ', e7, f', s'⟩ := hq; cases e7
      | panic ch => obtain ⟨e', fr, cc, v, h', ρ', _, e7, _⟩ := hq; cases e7
      | goto l => exact hq.elim
      | outgrown => exact hq.elim
  | _ => cases e1
end Go.Ev
end
section
/- Ev, soundness, part 45: how a frame is left; calls, of any depth. Conditions: none. -/
namespace Go.Ev
set_option linter.unusedVariables false
variable {P : Program} {rv : RV} {rh : H}

theorem leaveK_ok {cx : Cx} {tb : Tb} (tab : TabOk P cx tb) {call : CallT} (hcall : CallOk P call) {fN : Func} {keep : Nat} (hres : ResKept keep fN) {e : Env} {tmps : Array Value} {k : KV} {kp : KP} {ρ0 : Rho} {h0 : H} {w0 : World} : ∀ {ds : Ds} {dl : List Deferred} {ρ : Rho} {h : H} {w : World} {md : Md} {u : FrameMode},
    DsR ρ ds dl → HR P ρ h w → St ρ0 h0 w0 ρ h w → ER keep ρ .nil e tmps → UR ρ md u → leaveK (deferE cx call) (finE cx fN e k kp) ds md h = .ok rv rh → Leaves P fN tmps (Ended P rv rh ρ0 h0 w0 k kp) dl u w := by
  intro ds
  induction ds with
  | nil =>
    intro dl ρ h w md u hd r s he hu e1
    cases hd
    cases md with
    | ret =>
      have hu' : u = .returning := hu
      subst hu'
      obtain ⟨xs, vs, e2, hxs, hrun⟩ := resE_ok tab.ok r he hres e1
      exact ⟨_, results_ok hrun, _, h, ρ, e2, r, s, oneOr_rel hxs⟩
    | pan v =>
      obtain ⟨x, hx, rfl⟩ := hu
      exact ⟨v, x, h, ρ, rfl, e1, r, s, hx⟩
  | cons f args t ih =>
    intro dl ρ h w md u hd r s he hu e1
    cases hd with
    | cons _ _ _ fv cap first vs ds' hf ha ht =>
    have e2 : deferE cx call f args md h (fun md h => leaveK (deferE cx call) (finE cx fN e k kp) t md h) = .ok rv rh := e1
    obtain ⟨g, fargs, hinv, hcd⟩ := deferE_ok tab hcall r hf ha hu e2
    have hne : u ≠ .run := by
      cases md with
      | ret => have hu' : u = .returning := hu; subst hu'; simp
      | pan v => obtain ⟨x, _, rfl⟩ := hu; simp
    refine leaves_cons hne hinv (CallsD.mono hcd fun en u' w' hen => ?_)
    cases en with
    | returned v =>
      obtain ⟨md', h', ρ', e3, hur, r', s'⟩ := hen
      exact ih (ht.mono s'.sub) r' (s.trans s') (he.mono s'.sub) hur e3
    | panicked ch => exact hen.elim
    | outgrown => exact hen.elim

theorem bodyE_ok {cx : Cx} {tb : Tb} (tab : TabOk P cx tb) {call : CallT} (hcall : CallOk P call) {g : Nat} {fN : Func} {hk : Hk} {keep : Nat} {dr : Drs} {rs : Rs} (ok : FnOk P cx g fN hk keep dr rs) {ρ : Rho} {h : H} {w : World} {args : List RV} {vs : List Value} {k : KV} {kp : KP} (r : HR P ρ h w) (ha : RRs ρ args vs)
    (e : bodyE cx hk keep dr rs call fN args h k kp = .ok rv rh) : NextOk P rv rh ρ h w k kp ((callFunc g vs.toArray).run P w) := by
  obtain ⟨c, hb, e1⟩ := onSome_ok e
  rw [run_callFunc_body ok.func ok.name hb]
  refine calls_of_wp_defers ok.func hb ?_
  have hcode := (ok.code c hb call hcall _ (enter_size vs fN)).1
  have hfr : FrR P none keep (vs.toArray ++ Array.replicate (fN.ntmps - vs.toArray.size) undef).size ρ .nil (paramE args 0) (.mk .nil .no) h { tmps := vs.toArray ++ Array.replicate (fN.ntmps - vs.toArray.size) undef, defers := [] } .run w :=
    ⟨r, r.glob, ER.params ha _, rfl, .nil, rfl⟩
  have hg := (codeR_ok rounds c hcode hfr e1).1
  intro b k' cs
  obtain ⟨ex, a', u', w', hq, harr⟩ := hg b k' b cs (fun h => by cases h)
  refine ⟨ex, a', w', ?_, harr⟩
  cases ex with
  | normal => obtain ⟨e', fr, h', ρ', e2, f', s'⟩ := hq; exact leaveK_ok (md := .ret) tab hcall ok.res f'.ds f'.hr s' f'.env rfl e2
  | ret => obtain ⟨e', fr, h', ρ', e2, f', s'⟩ := hq; exact leaveK_ok (md := .ret) tab hcall ok.res f'.ds f'.hr s' f'.env rfl e2
  | exit id => obtain ⟨e', fr, h', ρ', e2, _⟩ := hq; cases e2
  | panic ch =>
    obtain ⟨e', fr, cc, v, h', ρ', rfl, e2, f', s', hc⟩ := hq
    exact leaveK_ok (md := .pan cc) tab hcall ok.res f'.ds f'.hr s' f'.env ⟨v, hc, rfl⟩ e2
  | goto l => exact hq.elim
  | outgrown => exact hq.elim

theorem callE_ok {cx : Cx} {tb : Tb} (tab : TabOk P cx tb) : ∀ n, CallOk P (callE cx tb n) := by
  intro n
  induction n with
  | zero => intro rv rh ρ h w f args vs k kp r ha e; cases e
  | succ n ih =>
    intro rv rh ρ h w f args vs k kp r ha e
    obtain ⟨x, hx, e1⟩ := entK_ok (cx := cx) (f := f) e
    cases x with
    | fn fN hk keep dr rs => exact bodyE_ok tab ih (tab.fns f fN hk keep dr rs hx) r ha e1
    | ext j => exact tab.exts f j hx r ha e1

/-- What is asked of a call of the program's, run to its end. -/
theorem callE_calls {cx : Cx} {tb : Tb} (tab : TabOk P cx tb) {n g : Nat} {fN : Func} {hk keep : Nat} {dr : Drs} {rs : Rs} (hfn : cx.fnAt g = some (.fn fN hk keep dr rs)) {ρ : Rho} {h : H} {w : World} {args : List RV} {vs : List Value} {k : KV} {kp : KP} (r : HR P ρ h w) (ha : RRs ρ args vs)
    (e : callE cx tb n g args h k kp = .ok rv rh) : Calls P g vs.toArray w (Ended P rv rh ρ h w k kp) := by
  have h1 := callE_ok tab n r ha e
  have ok := tab.fns g fN hk keep dr rs hfn
  cases n with
  | zero => cases e
  | succ n =>
    have e1 : entK cx g (fun x => Entry.rec (motive := fun _ => RT) (fun fn hk keep dr rs => bodyE cx (hkOf tb hk) keep dr rs (callE cx tb n) fn args h k kp) (fun j => ifB (Nat.blt j 100) (xOf j cx args h k) (lbOf (lbAt tb (j - 100)) cx args h k)) x) = .ok rv rh := e
    obtain ⟨x, hx, e2⟩ := entK_ok e1
    rw [hfn] at hx; cases hx
    obtain ⟨c, hb, _⟩ := onSome_ok (o := fN.body) e2
    rw [run_callFunc_body ok.func ok.name hb] at h1
    exact h1
end Go.Ev
end
section
/- Ev, soundness, part 46: values that are told the same; operations that read alone; operations that look at no memory. Conditions: none. -/
namespace Go.Ev
set_option linter.unusedVariables false
variable {P : Program} {rv : RV} {rh : H}

theorem onI_ok {c : Ce} {k : IntKind → Int → RT} (e : c.onI eSame k = .ok rv rh) : ∃ j n, c = .i j n ∧ k j n = .ok rv rh := by cases c with
  | i j n => exact ⟨j, n, rfl, e⟩
  | _ => cases e
theorem onB_ok {c : Ce} {k : Bool → RT} (e : c.onB eSame k = .ok rv rh) : ∃ b, c = .b b ∧ k b = .ok rv rh := by cases c with
  | b x => exact ⟨x, rfl, e⟩
  | _ => cases e
theorem onPp_ok {c : Ce} {k : Nat → Nat → RT} (e : c.onP eSame k = .ok rv rh) : ∃ h o, c = .p h o ∧ k h o = .ok rv rh := by cases c with
  | p h o => exact ⟨h, o, rfl, e⟩
  | _ => cases e
theorem onSll_ok {c : Ce} {k : Nat → Nat → Nat → Nat → RT} (e : c.onSl eSame k = .ok rv rh) : ∃ h o n m, c = .sl h o n m ∧ k h o n m = .ok rv rh := by cases c with
  | sl h o n m => exact ⟨h, o, n, m, rfl, e⟩
  | _ => cases e
theorem onStt_ok {c : Ce} {k : List UInt8 → RT} (e : c.onSt eSame k = .ok rv rh) : ∃ l, c = .st l ∧ k l = .ok rv rh := by cases c with
  | st l => exact ⟨l, rfl, e⟩
  | _ => cases e
theorem onVv_ok {c : Ce} {k : Value → RT} (e : c.onV eSame k = .ok rv rh) : ∃ w, c = .v w ∧ k w = .ok rv rh := by cases c with
  | v w => exact ⟨w, rfl, e⟩
  | _ => cases e
theorem natEq_of {a b : Nat} {k : RT} (e : ifB (Nat.beq a b) k eSame = .ok rv rh) : a = b ∧ k = .ok rv rh := by
  obtain ⟨h1, h2⟩ := ifB_t e; exact ⟨Nat.eq_of_beq_eq_true h1, h2⟩

theorem sameK_ok {f : Value → Value → RT → RT} (hf : ∀ v w k, f v w k = .ok rv rh → v = w ∧ k = .ok rv rh) {x y : Ce} {k : RT} (e : sameK f x y k = .ok rv rh) : x = y ∧ k = .ok rv rh := by
  cases x with
  | i j a =>
    obtain ⟨i, b, rfl, e1⟩ := onI_ok (c := y) e
    obtain ⟨h1, e2⟩ := ifB_t e1
    obtain ⟨h2, e3⟩ := ifB_t e2
    have := kindEq_spec h1; subst this
    rw [natEqInt_eq, beq_iff_eq] at h2
    exact ⟨by rw [h2], e3⟩
  | b a =>
    obtain ⟨b, rfl, e1⟩ := onB_ok (c := y) e
    obtain ⟨h1, e2⟩ := ifB_t e1
    refine ⟨?_, e2⟩
    cases a <;> cases b <;> first | rfl | cases h1
  | p b o =>
    obtain ⟨c, p, rfl, e1⟩ := onPp_ok (c := y) e
    obtain ⟨rfl, e2⟩ := natEq_of e1
    obtain ⟨rfl, e3⟩ := natEq_of e2
    exact ⟨rfl, e3⟩
  | sl b o n m =>
    obtain ⟨c, p, i, j, rfl, e1⟩ := onSll_ok (c := y) e
    obtain ⟨rfl, e2⟩ := natEq_of e1
    obtain ⟨rfl, e3⟩ := natEq_of e2
    obtain ⟨rfl, e4⟩ := natEq_of e3
    obtain ⟨rfl, e5⟩ := natEq_of e4
    exact ⟨rfl, e5⟩
  | st s =>
    obtain ⟨t, rfl, e1⟩ := onStt_ok (c := y) e
    obtain ⟨h1, e2⟩ := ifB_t e1
    rw [leq_eq, beq_iff_eq] at h1
    exact ⟨by rw [h1], e2⟩
  | v v =>
    obtain ⟨w, rfl, e1⟩ := onVv_ok (c := y) e
    obtain ⟨h1, e2⟩ := hf v w k e1
    exact ⟨by rw [h1], e2⟩

theorem same1_ok (v w : Value) (k : RT) (e : same1 v w k = .ok rv rh) : v = w ∧ k = .ok rv rh := by
  cases v with
  | pointer a => cases a with
    | none => rcases onPtr_ok (c := .v w) (kn := k) (k := fun _ _ => eSame) e with ⟨h1, e1⟩ | ⟨_, _, h1, e1⟩
              · cases h1; exact ⟨rfl, e1⟩
              · cases e1
    | some a => cases e
  | slice a n m => cases a with
    | none => rcases onSl_ok (c := .v w) (kn := fun i j => ifB (Nat.beq n i) (ifB (Nat.beq m j) k eSame) eSame) (k := fun _ _ _ _ => eSame) e with ⟨i, j, h1, e1⟩ | ⟨_, _, _, _, h1, e1⟩
              · cases h1
                obtain ⟨rfl, e2⟩ := natEq_of e1
                obtain ⟨rfl, e3⟩ := natEq_of e2
                exact ⟨rfl, e3⟩
              · cases e1
    | some a => cases e
  | map a =>
    obtain ⟨b, h1, e1⟩ := onMap_ok (c := .v w) (k := fun b => optEq a b k) e
    cases h1
    cases a with
    | none => cases b with
      | none => exact ⟨rfl, e1⟩
      | some b => cases e1
    | some a => cases b with
      | none => cases e1
      | some b => obtain ⟨rfl, e2⟩ := natEq_of e1; exact ⟨rfl, e2⟩
  | nilFunc =>
    have e1 : nilKind w (fun i b => ifB (Nat.beq i 3) (ifB b k eSame) eSame) = .ok rv rh := e
    cases w with
    | nilFunc => exact ⟨rfl, e1⟩
    | pointer a => cases a <;> cases e1
    | slice a n m => cases a <;> cases e1
    | map a => cases a <;> cases e1
    | _ => cases e1
  | nilIface =>
    have e1 : nilKind w (fun i b => ifB (Nat.beq i 4) (ifB b k eSame) eSame) = .ok rv rh := e
    cases w with
    | nilIface => exact ⟨rfl, e1⟩
    | pointer a => cases a <;> cases e1
    | slice a n m => cases a <;> cases e1
    | map a => cases a <;> cases e1
    | _ => cases e1
  | _ => cases e

theorem toCeK_back {v : Value} {k : Ce → RT} (e : toCeK v k = .ok rv rh) : ∃ c, k c = .ok rv rh ∧ c.toV = v := by
  cases v with
  | bool b => exact ⟨_, e, rfl⟩
  | int j n =>
    have e1 : intK n (fun n => k (.i j n)) = .ok rv rh := e
    rw [intK_eq] at e1
    exact ⟨_, e1, rfl⟩
  | string s => exact ⟨_, e, by rcases s with ⟨⟨l⟩⟩; rfl⟩
  | pointer a => cases a with
    | none => exact ⟨_, e, rfl⟩
    | some a => rcases a with ⟨b, o, s⟩; cases s with
      | none => exact ⟨_, e, rfl⟩
      | some s => cases e
  | slice a n m => cases a with
    | none => exact ⟨_, e, rfl⟩
    | some a => rcases a with ⟨b, o, s⟩; cases s with
      | none => exact ⟨_, e, rfl⟩
      | some s => cases e
  | map a => exact ⟨_, e, rfl⟩
  | func f x y => exact ⟨_, e, rfl⟩
  | nilFunc => exact ⟨_, e, rfl⟩
  | iface t x => exact ⟨_, e, rfl⟩
  | nilIface => exact ⟨_, e, rfl⟩
  | _ => cases e
theorem vAgg_ok {v : Value} {k : List Value → RT} (e : vAgg v k = .ok rv rh) : ∃ cs, v = .agg cs ∧ k cs.toList = .ok rv rh := by
  cases v with
  | agg cs => exact ⟨cs, rfl, e⟩
  | _ => cases e
theorem sameVs_ok {f : Value → Value → RT → RT} (hf : ∀ v w k, f v w k = .ok rv rh → v = w ∧ k = .ok rv rh) : ∀ {a b : List Value} {k : RT}, sameVs f a b k = .ok rv rh → a = b ∧ k = .ok rv rh
  | [], [], k, e => ⟨rfl, e⟩
  | [], _ :: _, k, e => by cases e
  | _ :: _, [], k, e => by cases e
  | x :: a, y :: b, k, e => by
    obtain ⟨rfl, e1⟩ := hf x y (sameVs f a b k) e
    obtain ⟨rfl, e2⟩ := sameVs_ok hf e1
    exact ⟨rfl, e2⟩
theorem sameV_ok : ∀ n v w k, sameV n v w k = .ok rv rh → v = w ∧ k = .ok rv rh := by
  intro n
  induction n with
  | zero => intro v w k e; cases e
  | succ n ih =>
    intro v w k e
    have gen : (toCeK v fun x => toCeK w fun y => sameK same1 x y k) = .ok rv rh → v = w ∧ k = .ok rv rh := fun e => by
      obtain ⟨x, e1, hx⟩ := toCeK_back e
      obtain ⟨y, e2, hy⟩ := toCeK_back e1
      obtain ⟨h1, e3⟩ := sameK_ok same1_ok e2
      exact ⟨by rw [← hx, ← hy, h1], e3⟩
    cases v with
    | iface t p =>
      rcases vIface_ok (w := w) (k := fun u q => ifB (Nat.beq t u) (sameV n p q k) eSame) e with ⟨u, q, rfl, e1⟩ | ⟨_, e1⟩
      · obtain ⟨rfl, e2⟩ := natEq_of e1
        obtain ⟨rfl, e3⟩ := ih p q k e2
        exact ⟨rfl, e3⟩
      · cases e1
    | agg cs =>
      obtain ⟨ds, rfl, e1⟩ := vAgg_ok (v := w) (k := fun ds => sameVs (sameV n) cs.toList ds k) e
      obtain ⟨h1, e2⟩ := sameVs_ok ih e1
      exact ⟨by rw [show cs = ds from Array.ext' h1], e2⟩
    | _ => exact gen e
theorem sameL_ok : ∀ {a b : List Ce} {k : RT}, sameL a b k = .ok rv rh → a = b ∧ k = .ok rv rh
  | [], [], k, e => ⟨rfl, e⟩
  | [], _ :: _, k, e => by cases e
  | _ :: _, [], k, e => by cases e
  | x :: a, y :: b, k, e => by
    obtain ⟨rfl, e1⟩ := sameK_ok (f := same2) (x := x) (y := y) (k := sameL a b k) (sameV_ok 8) e
    obtain ⟨rfl, e2⟩ := sameL_ok e1
    exact ⟨rfl, e2⟩
theorem goodB_ok : ∀ {c : Cs}, c.goodB = true → c.good
  | .nil, _ => trivial
  | .rep _ _, _ => trivial
  | .cat n a b, h => by
    have h' : ifB (Nat.beq n (a.size + b.size)) (ifB a.goodB b.goodB false) false = true := h
    cases h1 : Nat.beq n (a.size + b.size) with
    | false => rw [h1] at h'; cases h'
    | true =>
      rw [h1] at h'
      cases h2 : a.goodB with
      | false => rw [h2] at h'; cases h'
      | true =>
        rw [h2] at h'
        have ha := goodB_ok h2
        have hb := goodB_ok h'
        refine ⟨?_, ha, hb⟩
        rw [a.size_eq ha, b.size_eq hb] at h1
        exact Nat.eq_of_beq_eq_true h1
theorem sameR_ok {x y : RV} {k : RT} (e : sameR x y k = .ok rv rh) : k = .ok rv rh ∧ ∀ ρ v, RR ρ y v → RR ρ x v := by
  cases x with
  | s c =>
    obtain ⟨d, rfl, e1⟩ := onS_ok (x := y) e
    obtain ⟨rfl, e2⟩ := sameK_ok (sameV_ok 8) e1
    exact ⟨e2, fun _ _ h => h⟩
  | a c =>
    obtain ⟨h1, e1⟩ := ifB_t (b := c.goodB) e
    obtain ⟨d, rfl, e2⟩ := onA_ok e1
    obtain ⟨h2, e3⟩ := ifB_t e2
    obtain ⟨h3, e4⟩ := sameL_ok e3
    refine ⟨e4, fun ρ v h => ?_⟩
    obtain ⟨vs, rfl, hg, hc⟩ := h.aggr
    rw [Cs.toL_eq, Cs.toL_eq] at h3
    exact .a c vs (goodB_ok h1) (by rw [h3]; exact hc)
  | u => cases e
  | p x y => cases e
end Go.Ev
end
section
/- Ev, soundness, part 47: operations of a drawing region, one by one. Conditions: none. -/
namespace Go.Ev
set_option linter.unusedVariables false
variable {P : Program} {rv : RV} {rh : H}

noncomputable def strTy (cx : Cx) (t : Nat) : Bool :=
  match cx.tyAt t with
  | some i => match i.desc with
    | .string => true
    | .named _ u => match cx.tyAt u with
      | some j => match j.desc with
        | .string => true
        | _ => false
      | none => false
    | _ => false
  | none => false
theorem strTy_ok {cx : Cx} (hcx : CxOk P cx) {t : Nat} (h : strTy cx t = true) : P.underlying t = some .string := by
  unfold strTy at h
  cases h1 : cx.tyAt t with
  | none => rw [h1] at h; cases h
  | some i =>
    rw [h1] at h
    have hi := hcx.ty t i h1
    rcases i with ⟨d, str, size, bytes, hp, al, fal, zero, cmp, ms⟩
    simp only at h
    cases d with
    | string => simp [Program.underlying, hi]
    | named n u =>
      simp only at h
      cases h2 : cx.tyAt u with
      | none => rw [h2] at h; cases h
      | some j =>
        rw [h2] at h
        have hj := hcx.ty u j h2
        rcases j with ⟨d2, str2, size2, bytes2, hp2, al2, fal2, zero2, cmp2, ms2⟩
        simp only at h
        cases d2 <;> first | (simp [Program.underlying, hi, hj]; done) | cases h
    | _ => cases h

noncomputable def arrTy (cx : Cx) (t : Nat) : Bool :=
  match cx.tyAt t with
  | some i => match i.desc with
    | .array _ _ => true
    | .named _ u => match cx.tyAt u with
      | some j => match j.desc with
        | .array _ _ => true
        | _ => false
      | none => false
    | _ => false
  | none => false
theorem arrTy_ok {cx : Cx} (hcx : CxOk P cx) {t : Nat} (h : arrTy cx t = true) : ∃ n el, P.underlying t = some (.array n el) := by
  unfold arrTy at h
  cases h1 : cx.tyAt t with
  | none => rw [h1] at h; cases h
  | some i =>
    rw [h1] at h
    have hi := hcx.ty t i h1
    rcases i with ⟨d, str, size, bytes, hp, al, fal, zero, cmp, ms⟩
    simp only at h
    cases d with
    | array n el => exact ⟨n, el, by simp [Program.underlying, hi]⟩
    | named n u =>
      simp only at h
      cases h2 : cx.tyAt u with
      | none => rw [h2] at h; cases h
      | some j =>
        rw [h2] at h
        have hj := hcx.ty u j h2
        rcases j with ⟨d2, str2, size2, bytes2, hp2, al2, fal2, zero2, cmp2, ms2⟩
        simp only at h
        cases d2 with
        | array n' el => exact ⟨n', el, by simp [Program.underlying, hi, hj]⟩
        | _ => cases h
    | _ => cases h
theorem pSlice_read {cx : Cx} (hcx : CxOk P cx) {ρ : Rho} {h : H} {w : World} {t n el : Nat} {x : RV} {v : Value} {lo hi mx : Option RV} {vlo vhi vmx : Option Value} {k : KV} (r : HR P ρ h w) (ht : P.underlying t = some (.array n el))
    (hx : RR ρ x v) (hlo : OptR ρ lo vlo) (hhi : OptR ρ hi vhi) (hmx : OptR ρ mx vmx) (e : pSlice cx t x lo hi mx h k = .ok rv rh) : Read P rv rh ρ h w k (Instr.sliceAt t v vlo vhi vmx) := by
  obtain ⟨c, rfl, e1⟩ := onS_ok e
  obtain ⟨d, hu, e2⟩ := underK_ok hcx e1
  rw [ht] at hu; cases hu
  rcases dStr_ok e2 with ⟨h1, _⟩ | ⟨_, e3⟩
  · cases h1
  · rcases dArr_ok e3 with ⟨n', el', h1, e4⟩ | ⟨h1, _⟩
    · cases h1
      obtain ⟨ti, hti, e5⟩ := tyK_ok hcx e4
      obtain ⟨a, o, hc, e6⟩ := onPlace_ok e5
      cases hc
      obtain ⟨e7, hex⟩ := exactK_ok r e6
      obtain ⟨y, u, h2, h3, h4⟩ := slArr_ok ht hti hx hex hlo hhi hmx e7
      exact ⟨y, u, h2, h3, h4 w⟩
    · exact absurd rfl (h1 _ _)

/-- What reads alone. -/
noncomputable def rdOp (cx : Cx) : Op → Bool
  | .load _ _ => true
  | .lookup _ _ _ _ => true
  | .convert _ d _ => strTy cx d
  | .slice t _ _ _ _ => arrTy cx t
  | .call c => match c.callee with
    | .builtin .len => true
    | _ => false
  | _ => false
/-- What leaves the frame as it is. -/
def nfOp : Op → Bool
  | .defer _ => false
  | .call c => match c.callee with
    | .builtin b => !(Nat.beq b.ctorIdx 17)
    | _ => true
  | _ => true
theorem nfOp_ok {o : Op} (h : nfOp o = true) : (∀ c, o ≠ .defer c) ∧ ∀ c b, o = .call c → c.callee = .builtin b → isRec b = false := by
  refine ⟨fun c hc => (by subst hc; cases h), fun c b hc hb => ?_⟩
  subst hc
  simp only [nfOp, hb] at h
  unfold isRec
  cases hq : Nat.beq b.ctorIdx 17 with
  | false => rfl
  | true => rw [hq] at h; cases h

theorem exV_rd {q : Q} (hcx : CxOk P q.cx) {T : Nat → Prop} {ρ : Rho} {l e : Env} {a : Act} {o : Oper} {fr : F} {h : H} {w : World} {x : RV} {h1 : H} (r : HR P ρ h w) (he : ERT T q.keep ρ l e a.tmps) (hT : ∀ x ∈ o.op.operands, Of T x) (hrd : rdOp q.cx o.op = true)
    (e1 : exV q o l e fr h = .ok x h1) : ∃ v, (execOp a.eval o).run P w = .ok (.value v) w ∧ RR ρ x v := by
  have hg := r.glob
  have fin : ∀ {sem : Sem Value}, Read P x h1 ρ h w (fun v h => .ok v h) sem → execOp a.eval o = (do pure (.value (← sem))) → ∃ v, (execOp a.eval o).run P w = .ok (.value v) w ∧ RR ρ x v := fun {sem} hr hx => by
    obtain ⟨y, u, h2, h3, h4⟩ := hr
    cases h2
    exact ⟨u, by rw [hx]; simp [h4], h3⟩
  unfold exV at e1
  cases hop : o.op with
  | load t x =>
    rw [hop] at e1
    obtain ⟨xv, e2, hx⟩ := valK_ok hg he (o := x) (hT x (by simp [hop, Op.operands])) e1
    exact fin (load_read hcx r hx e2) (by unfold execOp; rw [hop])
  | lookup t x i ok =>
    rw [hop] at e1
    obtain ⟨xv, e2, hx⟩ := valK_ok hg he (o := x) (hT x (by simp [hop, Op.operands])) e1
    obtain ⟨iv, e3, hi⟩ := valK_ok hg he (o := i) (hT i (by simp [hop, Op.operands])) e2
    exact fin (look_read hcx r hx hi e3) (by unfold execOp; rw [hop])
  | convert s d x =>
    rw [hop] at e1
    obtain ⟨xv, e2, hx⟩ := valK_ok hg he (o := x) (hT x (by simp [hop, Op.operands])) e1
    have hd : strTy q.cx d = true := by rw [hop] at hrd; exact hrd
    exact fin (conv_read hcx r hx (strTy_ok hcx hd) e2) (by unfold execOp; rw [hop])
  | slice t x lo hi mx =>
    rw [hop] at e1
    obtain ⟨xv, e2, hx⟩ := valK_ok hg he (o := x) (hT x (by simp [hop, Op.operands])) e1
    obtain ⟨lv, e3, hl⟩ := optK_ok hg he (o := lo) (fun y hy => hT y (by subst hy; simp [hop, Op.operands])) e2
    obtain ⟨hv, e4, hh⟩ := optK_ok hg he (o := hi) (fun y hy => hT y (by subst hy; simp [hop, Op.operands])) e3
    obtain ⟨mv, e5, hm⟩ := optK_ok hg he (o := mx) (fun y hy => hT y (by subst hy; simp [hop, Op.operands])) e4
    have hd : arrTy q.cx t = true := by rw [hop] at hrd; exact hrd
    obtain ⟨n, el, ht⟩ := arrTy_ok hcx hd
    exact fin (pSlice_read hcx r ht hx hl hh hm e5) (by unfold execOp; rw [hop])
  | call c =>
    rw [hop] at e1 hrd
    have e2 : oCallP c q l e fr h (fun v _ h => .ok v h) (fun v h => .pan v h) = .ok x h1 := e1
    rcases c with ⟨callee, args, argTypes⟩
    cases callee with
    | value f => cases hrd
    | invoke f n => cases hrd
    | builtin b =>
      have hb : b = .len := by cases b <;> first | rfl | cases hrd
      subst hb
      obtain ⟨xs, e3, hxs⟩ := valsK_ok hg he (os := args.toList) (fun y hy => hT y (by have := Array.mem_toList_iff.1 hy; simp [hop, Op.operands, Call.operands, this])) e2
      have harr : args.map a.eval = (args.toList.map a.eval).toArray := by apply Array.ext'; simp
      have hr := bLen_read (ty := o.type) hcx r hxs e3
      rw [← harr] at hr
      refine fin hr ?_
      unfold execOp
      rw [hop]
      rfl
  | _ => rw [hop] at hrd; cases hrd

/-- What looks at no memory. -/
theorem thin {ρ ρ' : Rho} {h h1 : H} {w w' : World} (r : HR P ρ h w) (hb : h.next ≤ big) (h1n : h1.next = big) (r' : HR P ρ' h1 w') (s : St ρ bigH w ρ' h1 w') : ρ' = ρ ∧ HR P ρ h w' ∧ St ρ h w ρ h w' := by
  have hnone : ∀ a, bigH.at a = none := fun a => rfl
  have heq : ρ' = ρ := by
    funext a
    cases h2 : ρ' a with
    | some x =>
      rcases s.fresh a x h2 with h3 | h3
      · exact h3.symm
      · have := r'.dom a x h2
        rw [h1n] at this
        have h4 : big ≤ a := h3
        omega
    | none =>
      cases h3 : ρ a with
      | none => rfl
      | some x => have := s.sub a x h3; rw [h2] at this; cases this
  subst heq
  have hfr : ∀ b, b < w.heap.size → w'.heap[b]? = w.heap[b]? := fun b hb => s.frame b hb fun a o x h2 => by rw [hnone] at h2; cases h2
  refine ⟨rfl, ⟨r.glob, r.free.keep (fun b hb => hfr b (r.free.lt hb)) r.free.2, r.dom, fun a x h2 => Nat.lt_of_lt_of_le (r.blk a x h2) s.size, fun a o h2 => ?_, r.mit, r.inj⟩, ⟨Rho.sub.refl _, Nat.le_refl _, fun _ _ h => .inl h, s.size, fun b hb _ => hfr b hb, fun a o x h2 h3 _ => ⟨a, o, x, h2, h3, rfl⟩, s.os, s.out, s.tape⟩⟩
  obtain ⟨b, base, ex, h3, h4⟩ := r.obj a o h2
  exact ⟨b, base, ex, h3, h4.keep (hfr b (r.blk _ _ h3)) fun m bm x y _ h5 => hfr bm (r.blk _ _ h5)⟩
theorem big_ok {ρ : Rho} {h : H} {w : World} (r : HR P ρ h w) (hb : h.next ≤ big) : HR P ρ bigH w :=
  ⟨r.glob, r.free, fun a x h1 => Nat.lt_of_lt_of_le (r.dom a x h1) hb, r.blk, fun a o h1 => (by cases h1), fun a j h1 => (by cases h1), fun a a' o o' x x' h1 => (by cases h1)⟩

/-- From what an operation gives by itself, to what follows it. -/
theorem upon_val {ρ : Rho} {h h1 : H} {w : World} {x : RV} {o : Oper} {a : Act} {next : Act → World → Prop} {Q : Exit → Act → World → Prop} {res : Result Next} (hr : NextOk P x h1 ρ h w (fun v h => .ok v h) (fun v h => .pan v h) res)
    (hn : ∀ v w' ρ', HR P ρ' h1 w' → St ρ h w ρ' h1 w' → RR ρ' x v → next (a.put o.dst v) w') : o.upon P a next Q res := by
  unfold NextOk at hr
  unfold Oper.upon
  split at hr
  · obtain ⟨y, h', ρ', e1, h2, h3, h4⟩ := hr
    cases e1; exact hn _ _ ρ' h2 h3 h4
  · obtain ⟨h', ρ', e1, h2, h3⟩ := hr
    cases e1; exact hn _ _ ρ' h2 h3 (RR.undef ρ')
  · refine Calls.mono hr fun en w' he => ?_
    cases en with
    | returned v => obtain ⟨y, h', ρ', e1, h2, h3, h4⟩ := he; cases e1; exact hn _ _ ρ' h2 h3 h4
    | panicked ch => obtain ⟨c, v, h', ρ', _, e1, _⟩ := he; cases e1
    | outgrown => exact he.elim
  · obtain ⟨c, h', ρ', e1, _⟩ := hr; cases e1
  · exact hr.elim
end Go.Ev
end
section
/- Ev, soundness, part 48: what a drawing region's run says of each operation. Conditions: none. -/
namespace Go.Ev
set_option linter.unusedVariables false
variable {P : Program} {rv : RV} {rh : H}

theorem onOk_ok {r : RT} {k : RV → H → RT} (e : onOk r k = .ok rv rh) : ∃ v h, r = .ok v h ∧ k v h = .ok rv rh := by
  cases r with
  | ok v h => exact ⟨v, h, rfl, e⟩
  | _ => cases e
/-- The one value stands to all that the other one stands to. -/
def Imp (x y : RV) : Prop := ∀ ρ v, RR ρ y v → RR ρ x v
theorem oldK_ok {again : H → RT} {v : RV} {k : RT} : ∀ {hs : List H} {n : Nat}, oldK again v hs k n = .ok rv rh → k = .ok rv rh ∧ ∀ j h, j < n → hs[j]? = some h → ∃ y h1, again h = .ok y h1 ∧ Imp v y
  | [], n, e => ⟨e, fun j h _ hj => by cases hj⟩
  | h :: hs, 0, e => ⟨e, fun j h hj => by omega⟩
  | h :: hs, n + 1, e => by
    have e' : onOk (again h) (fun x _ => sameR v x (oldK again v hs k n)) = .ok rv rh := e
    obtain ⟨y, h1, h2, e1⟩ := onOk_ok e'
    obtain ⟨e2, h3⟩ := sameR_ok e1
    obtain ⟨e3, h4⟩ := oldK_ok e2
    refine ⟨e3, fun j h' hj hh => ?_⟩
    cases j with
    | zero => cases hh; exact ⟨y, h1, h2, h3⟩
    | succ j => exact h4 j h' (by omega) (by simpa using hh)
def PlAll (p : Nat → (H → RT) → RV → Prop) : Pl → Prop
  | .nil => True
  | .cons hi a v r => p hi a v ∧ PlAll p r
theorem PlAll.mono {p p' : Nat → (H → RT) → RV → Prop} (h : ∀ hi a v, p hi a v → p' hi a v) : ∀ {pl : Pl}, PlAll p pl → PlAll p' pl
  | .nil, _ => trivial
  | .cons _ _ _ _, h' => ⟨h _ _ _ h'.1, PlAll.mono h h'.2⟩
theorem PlAll.and {p p' : Nat → (H → RT) → RV → Prop} : ∀ {pl : Pl}, PlAll p pl → PlAll p' pl → PlAll (fun hi a v => p hi a v ∧ p' hi a v) pl
  | .nil, _, _ => trivial
  | .cons _ _ _ _, h, h' => ⟨⟨h.1, h'.1⟩, PlAll.and h.2 h'.2⟩
theorem newK_ok {h : H} {m : Nat} {k : RT} : ∀ {pl : Pl}, newK h m pl k = .ok rv rh → k = .ok rv rh ∧ PlAll (fun hi a v => m ≤ hi → ∃ y h1, a h = .ok y h1 ∧ Imp v y) pl
  | .nil, e => ⟨e, trivial⟩
  | .cons hi a v r, e => by
    have e' : ifB (Nat.ble m hi) (onOk (a h) fun x _ => sameR v x (newK h m r k)) (newK h m r k) = .ok rv rh := e
    rcases ifB_ok e' with ⟨h1, e1⟩ | ⟨h1, e1⟩
    · obtain ⟨y, h2, h3, e2⟩ := onOk_ok e1
      obtain ⟨e3, h4⟩ := sameR_ok e2
      obtain ⟨e4, h5⟩ := newK_ok e3
      exact ⟨e4, fun _ => ⟨y, h2, h3, h4⟩, h5⟩
    · obtain ⟨e4, h5⟩ := newK_ok e1
      exact ⟨e4, fun hm => (by rw [Nat.ble_eq_true_of_le hm] at h1; cases h1), h5⟩

/-- How many operations before the i-th act. -/
def isEff : Dk → Bool
  | .eff => true
  | _ => false
def acts (ds : List Dk) (i : Nat) : Nat := ((ds.take i).filter isEff).length
theorem acts_zero (ds : List Dk) : acts ds 0 = 0 := rfl
theorem acts_succ {ds : List Dk} {i : Nat} {d : Dk} (h : ds[i]? = some d) : acts ds (i + 1) = acts ds i + if isEff d = true then 1 else 0 := by
  unfold acts
  rw [List.take_add_one, h, List.filter_append, List.length_append]
  congr 1
  show ([d].filter isEff).length = _
  cases hd : isEff d with
  | true => simp [hd]
  | false => simp [hd]
theorem acts_mono (ds : List Dk) {i j : Nat} (h : i ≤ j) : acts ds i ≤ acts ds j := by
  unfold acts
  exact ((List.take_sublist_take_left h).filter _).length_le

structure Stp where
  l : Env
  e : Env
  b : Bool
  x : RV
/-- What the run says of an operation, by its kind. -/
def KindF (q : Q) (ds : List Dk) (fr : F) (n : Nat) (Hp : Nat → H) (i : Nat) (o : Oper) (l e : Env) (b : Bool) (x : RV) : Dk → Prop
  | .pure => b = true → ∃ h1, exV q o l e fr bigH = .ok x h1 ∧ h1.next = big
  | .load lo hi => b = true → ∀ k, lo ≤ k → k ≤ hi → k ≤ acts ds n → ∃ y h1, exV q o l e fr (Hp k) = .ok y h1 ∧ Imp x y
  | .eff => (Hp (acts ds i + 1)).next ≤ big ∧ (b = true → exV q o l e fr (Hp (acts ds i)) = .ok x (Hp (acts ds i + 1))) ∧ (b = false → Hp (acts ds i + 1) = Hp (acts ds i))
/-- What the run says of an operation. -/
def Fact (q : Q) (os : List Oper) (ds : List Dk) (fr : F) (n : Nat) (S : Nat → Stp) (Hp : Nat → H) (i : Nat) : Prop :=
  ∀ o d, os[i]? = some o → ds[i]? = some d →
    (∀ k kn, wantK q os (S i).l (S i).e o.guard k kn = if (S i).b = true then k else kn) ∧ ((S i).b = false → (S i).x = .u) ∧
    (∀ t, cur q.keep (S (i + 1)).l (S (i + 1)).e t = if o.dst = some t then some (S i).x else cur q.keep (S i).l (S i).e t) ∧
    KindF q ds fr n Hp i o (S i).l (S i).e (S i).b (S i).x d

theorem opsD_trace {q : Q} {os : List Oper} {ds : List Dk} {fr : F} {k : Env → H → RT} (hlen : os.length ≤ ds.length) : ∀ (ls : List Oper) (i : Nat), os.drop i = ls → i ≤ os.length → ∀ {l e : Env} {h : H} {hs : List H} {pl : Pl} {Hold : Nat → H},
    hs.length = acts ds i → (∀ j, j < acts ds i → hs[j]? = some (Hold (acts ds i - 1 - j))) → Hold (acts ds i) = h → opsD os ls (ds.drop i) q l e fr h hs (acts ds i) pl k = .ok rv rh →
    ∃ (S : Nat → Stp) (Hp : Nat → H), (S i).l = l ∧ (S i).e = e ∧ (∀ m, m ≤ acts ds i → Hp m = Hold m) ∧ (∀ j, i ≤ j → j < os.length → Fact q os ds fr os.length S Hp j) ∧
      PlAll (fun hi a v => ∀ m, acts ds i < m → m ≤ hi → m ≤ acts ds os.length → ∃ y h1, a (Hp m) = .ok y h1 ∧ Imp v y) pl ∧ k (S os.length).e (Hp (acts ds os.length)) = .ok rv rh := by
  intro ls
  induction ls with
  | nil =>
    intro i hi hle l e h hs pl Hold _ _ hH e1
    have hin : i = os.length := by
      have := congrArg List.length hi
      simp at this; omega
    subst hin
    refine ⟨fun _ => ⟨l, e, true, .u⟩, Hold, rfl, rfl, fun _ _ => rfl, fun j h1 h2 => by omega, ?_, by rw [hH]; exact e1⟩
    have : ∀ pl : Pl, PlAll (fun hi a v => ∀ m, acts ds os.length < m → m ≤ hi → m ≤ acts ds os.length → ∃ y h1, a (Hold m) = .ok y h1 ∧ Imp v y) pl := fun pl => by
      induction pl with
      | nil => trivial
      | cons hi a v r ih => exact ⟨fun m h1 _ h3 => by omega, ih⟩
    exact this pl
  | cons o ls ih =>
    intro i hi hle l e h hs pl Hold hhl hhs hH e1
    have hilt : i < os.length := by
      have := congrArg List.length hi
      simp at this; omega
    have ho : os[i]? = some o := by
      have h1 : (os.drop i)[0]? = some o := by rw [hi]; rfl
      rwa [List.getElem?_drop, Nat.add_zero] at h1
    have hi' : os.drop (i + 1) = ls := by rw [← List.drop_drop, hi]; rfl
    obtain ⟨d, hd⟩ : ∃ d, ds[i]? = some d := ⟨_, List.getElem?_eq_getElem (by omega)⟩
    have hdd : ds.drop i = d :: ds.drop (i + 1) := by
      have := List.drop_eq_getElem_cons (l := ds) (i := i) (by omega)
      rw [this]; congr 1
      exact Option.some.inj ((List.getElem?_eq_getElem (by omega)).symm.trans hd)
    rw [hdd] at e1
    have e2 : opD q os o d l e fr h hs (acts ds i) pl (fun l e h hs m pl => opsD os ls (ds.drop (i + 1)) q l e fr h hs m pl k) = .ok rv rh := e1
    have hcs := acts_succ hd
    -- the rest, from an environment and heaps on
    have rest : ∀ {b : Bool} {x : RV} {h' : H} {hs' : List H} {pl' : Pl} {Hold' : Nat → H}, (∀ k kn, wantK q os l e o.guard k kn = if b = true then k else kn) → (b = false → x = .u) →
        hs'.length = acts ds (i + 1) → (∀ j, j < acts ds (i + 1) → hs'[j]? = some (Hold' (acts ds (i + 1) - 1 - j))) → Hold' (acts ds (i + 1)) = h' → (∀ m, m ≤ acts ds i → Hold' m = Hold m) →
        (putK q o.dst l e x fun l e => opsD os ls (ds.drop (i + 1)) q l e fr h' hs' (acts ds (i + 1)) pl' k) = .ok rv rh →
        (∀ Hp : Nat → H, (∀ m, m ≤ acts ds (i + 1) → Hp m = Hold' m) → PlAll (fun hi a v => ∀ m, acts ds (i + 1) < m → m ≤ hi → m ≤ acts ds os.length → ∃ y h1, a (Hp m) = .ok y h1 ∧ Imp v y) pl' →
          KindF q ds fr os.length Hp i o l e b x d ∧
          PlAll (fun hi a v => ∀ m, acts ds i < m → m ≤ hi → m ≤ acts ds os.length → ∃ y h1, a (Hp m) = .ok y h1 ∧ Imp v y) pl) →
        ∃ (S : Nat → Stp) (Hp : Nat → H), (S i).l = l ∧ (S i).e = e ∧ (∀ m, m ≤ acts ds i → Hp m = Hold m) ∧ (∀ j, i ≤ j → j < os.length → Fact q os ds fr os.length S Hp j) ∧
          PlAll (fun hi a v => ∀ m, acts ds i < m → m ≤ hi → m ≤ acts ds os.length → ∃ y h1, a (Hp m) = .ok y h1 ∧ Imp v y) pl ∧ k (S os.length).e (Hp (acts ds os.length)) = .ok rv rh := by
      intro b x h' hs' pl' Hold' hw hu hl1 hl2 hl3 hl4 e3 hfin
      obtain ⟨l', e', hp1, hp2⟩ := putK_gives q o.dst l e x
      rw [hp1] at e3
      obtain ⟨S, Hp, hS1, hS2, hHp, hfact, hpl, hk⟩ := ih (i + 1) hi' hilt (Hold := Hold') hl1 hl2 hl3 e3
      obtain ⟨hkind, hplr⟩ := hfin Hp hHp hpl
      refine ⟨fun j => if j = i then ⟨l, e, b, x⟩ else S j, Hp, by simp, by simp, fun m hm => by rw [hHp m (by rw [hcs]; omega), hl4 m hm], fun j h1 h2 => ?_, hplr, by simpa [show os.length ≠ i by omega] using hk⟩
      by_cases hj : j = i
      · subst hj
        intro o' d' h3 h4
        rw [ho] at h3; cases h3
        rw [hd] at h4; cases h4
        refine ⟨by simpa using hw, by simpa using hu, fun t => ?_, by simpa using hkind⟩
        have := hp2 t
        rw [← hS1, ← hS2] at this
        simpa using this
      · have := hfact j (by omega) h2
        intro o' d' h3 h4
        have h5 := this o' d' h3 h4
        simp only [if_neg hj, if_neg (show j + 1 ≠ i by omega)]
        exact h5
    have same : ∀ {b : Bool} {x : RV} {pl' : Pl}, isEff d = false → (∀ k kn, wantK q os l e o.guard k kn = if b = true then k else kn) → (b = false → x = .u) →
        (putK q o.dst l e x fun l e => opsD os ls (ds.drop (i + 1)) q l e fr h hs (acts ds i) pl' k) = .ok rv rh →
        (∀ Hp : Nat → H, (∀ m, m ≤ acts ds i → Hp m = Hold m) → PlAll (fun hi a v => ∀ m, acts ds i < m → m ≤ hi → m ≤ acts ds os.length → ∃ y h1, a (Hp m) = .ok y h1 ∧ Imp v y) pl' →
          KindF q ds fr os.length Hp i o l e b x d ∧
          PlAll (fun hi a v => ∀ m, acts ds i < m → m ≤ hi → m ≤ acts ds os.length → ∃ y h1, a (Hp m) = .ok y h1 ∧ Imp v y) pl) →
        ∃ (S : Nat → Stp) (Hp : Nat → H), (S i).l = l ∧ (S i).e = e ∧ (∀ m, m ≤ acts ds i → Hp m = Hold m) ∧ (∀ j, i ≤ j → j < os.length → Fact q os ds fr os.length S Hp j) ∧
          PlAll (fun hi a v => ∀ m, acts ds i < m → m ≤ hi → m ≤ acts ds os.length → ∃ y h1, a (Hp m) = .ok y h1 ∧ Imp v y) pl ∧ k (S os.length).e (Hp (acts ds os.length)) = .ok rv rh := by
      intro b x pl' hne hw hu e3 hfin
      have hc : acts ds (i + 1) = acts ds i := by rw [hcs, hne]; rfl
      refine rest (h' := h) (hs' := hs) (Hold' := Hold) hw hu (by rw [hc]; exact hhl) (by rw [hc]; exact hhs) (by rw [hc]; exact hH) (fun _ _ => rfl) (by rw [hc]; exact e3) fun Hp h1 h2 => ?_
      rw [hc] at h1 h2
      obtain ⟨h3, h4⟩ := hfin Hp h1 h2
      exact ⟨h3, h4⟩
    rcases wantK_gives q os l e o.guard with ⟨b, hw⟩ | ⟨s, hw⟩
    · cases d with
      | pure =>
        have e3 : wantK q os l e o.guard (onOk (exV q o l e fr bigH) fun v h1 => ifB (Nat.beq h1.nx big) (putK q o.dst l e v fun l e => opsD os ls (ds.drop (i + 1)) q l e fr h hs (acts ds i) pl k) (.err "a pure operation that makes a block")) (putK q o.dst l e .u fun l e => opsD os ls (ds.drop (i + 1)) q l e fr h hs (acts ds i) pl k) = .ok rv rh := e2
        rw [hw] at e3
        cases b with
        | false => exact same (b := false) rfl hw (fun _ => rfl) e3 fun Hp h1 h2 => ⟨fun h => (by cases h), h2⟩
        | true =>
          obtain ⟨v, h1, hv, e4⟩ := onOk_ok e3
          obtain ⟨hb, e5⟩ := ifB_t e4
          exact same (b := true) (x := v) rfl hw (fun h => by cases h) e5 fun Hp q1 q2 => ⟨fun _ => ⟨h1, hv, by rw [← H.nx_eq]; exact Nat.eq_of_beq_eq_true hb⟩, q2⟩
      | load lo hi =>
        have e3 : wantK q os l e o.guard (onOk (exV q o l e fr h) fun v _ => oldK (exV q o l e fr) v hs (putK q o.dst l e v fun l1 e1 => opsD os ls (ds.drop (i + 1)) q l1 e1 fr h hs (acts ds i) (.cons hi (exV q o l e fr) v pl) k) (acts ds i - lo)) (putK q o.dst l e .u fun l e => opsD os ls (ds.drop (i + 1)) q l e fr h hs (acts ds i) pl k) = .ok rv rh := e2
        rw [hw] at e3
        cases b with
        | false => exact same (b := false) rfl hw (fun _ => rfl) e3 fun Hp h1 h2 => ⟨fun h => (by cases h), h2⟩
        | true =>
          obtain ⟨v, h1, hv, e4⟩ := onOk_ok e3
          obtain ⟨e5, hold⟩ := oldK_ok e4
          refine same (b := true) (x := v) rfl hw (fun h => by cases h) e5 fun Hp q1 q2 => ⟨fun _ m hm1 hm2 hm3 => ?_, q2.2⟩
          rcases Nat.lt_trichotomy m (acts ds i) with hlt | heq | hgt
          · have hj := hhs (acts ds i - 1 - m) (by omega)
            rw [show acts ds i - 1 - (acts ds i - 1 - m) = m by omega] at hj
            obtain ⟨y, h2, h3, h4⟩ := hold (acts ds i - 1 - m) _ (by omega) hj
            exact ⟨y, h2, by rw [q1 m (by omega)]; exact h3, h4⟩
          · subst heq
            exact ⟨v, h1, by rw [q1 _ (Nat.le_refl _), hH]; exact hv, fun _ _ h => h⟩
          · exact q2.1 m hgt hm2 hm3
      | eff =>
        have e3 : wantK q os l e o.guard (onOk (exV q o l e fr h) fun v h1 => effD q o.dst l e h hs (acts ds i) pl (fun l e h hs m pl => opsD os ls (ds.drop (i + 1)) q l e fr h hs m pl k) v h1) (effD q o.dst l e h hs (acts ds i) pl (fun l e h hs m pl => opsD os ls (ds.drop (i + 1)) q l e fr h hs m pl k) .u h) = .ok rv rh := e2
        rw [hw] at e3
        have hc : acts ds (i + 1) = acts ds i + 1 := hcs
        have fin : ∀ {x : RV} {h1 : H}, (b = false → x = .u) → (b = true → exV q o l e fr h = .ok x h1) → (b = false → h1 = h) → effD q o.dst l e h hs (acts ds i) pl (fun l e h hs m pl => opsD os ls (ds.drop (i + 1)) q l e fr h hs m pl k) x h1 = .ok rv rh →
            ∃ (S : Nat → Stp) (Hp : Nat → H), (S i).l = l ∧ (S i).e = e ∧ (∀ m, m ≤ acts ds i → Hp m = Hold m) ∧ (∀ j, i ≤ j → j < os.length → Fact q os ds fr os.length S Hp j) ∧
              PlAll (fun hi a v => ∀ m, acts ds i < m → m ≤ hi → m ≤ acts ds os.length → ∃ y h1, a (Hp m) = .ok y h1 ∧ Imp v y) pl ∧ k (S os.length).e (Hp (acts ds os.length)) = .ok rv rh := by
          intro x h1 hu hex hsame e4
          obtain ⟨hbig, e5⟩ := ifB_t e4
          rw [Nat.ble_eq, H.nx_eq] at hbig
          rw [natK_eq] at e5
          obtain ⟨e6, hnew⟩ := newK_ok e5
          refine rest (b := b) (x := x) (h' := h1) (hs' := h :: hs) (Hold' := fun m => if m = acts ds i + 1 then h1 else Hold m) hw hu (by rw [hc]; simp [hhl]) (fun j hj => ?_) (by rw [hc]; simp) (fun m hm => by rw [if_neg (by omega)]) (by rw [hc]; exact e6) fun Hp q1 q2 => ?_
          · rw [hc] at hj ⊢
            cases j with
            | zero => simp [hH]
            | succ j =>
              rw [if_neg (by omega)]
              have := hhs j (by omega)
              simp only [List.getElem?_cons_succ, this]
              congr 2; omega
          · have hq : Hp (acts ds i + 1) = h1 := by rw [q1 _ (by rw [hc]; exact Nat.le_refl _), if_pos rfl]
            have hq0 : Hp (acts ds i) = h := by rw [q1 _ (by rw [hc]; omega), if_neg (by omega), hH]
            refine ⟨⟨by rw [hq]; exact hbig, fun hb => by rw [hq, hq0]; exact hex hb, fun hb => by rw [hq, hq0]; exact hsame hb⟩, ?_⟩
            refine PlAll.mono (fun hi a v hp m hm1 hm2 hm3 => ?_) (PlAll.and hnew q2)
            by_cases hm : m = acts ds i + 1
            · subst hm
              rw [hq]; exact hp.1 hm2
            · exact hp.2 m (by rw [hc]; omega) hm2 hm3
        cases b with
        | false => exact fin (fun _ => rfl) (fun h => by cases h) (fun _ => rfl) e3
        | true =>
          obtain ⟨v, h1, hv, e4⟩ := onOk_ok e3
          exact fin (fun h => by cases h) (fun _ => hv) (fun h => by cases h) e4
    · cases d <;> (rw [show opD q os o _ l e fr h hs (acts ds i) pl _ = wantK q os l e o.guard _ _ from rfl, hw] at e2; cases e2)
end Go.Ev
end
section
/- Ev, soundness, part 49: a drawing region, in whatever order. Conditions: none. -/
namespace Go.Ev
set_option linter.unusedVariables false
variable {P : Program} {rv : RV} {rh : H}

/-- The i-th operation stands behind the j-th one. -/
inductive Anc (os : List Oper) : Nat → Nat → Prop
  | edge (i : Nat) (o : Oper) (e : Edge) (ho : os[i]? = some o) (he : e ∈ o.after) (hb : Region.binds .any e = true) : Anc os i e.on
  | trans (i j : Nat) (o : Oper) (e : Edge) (ho : os[i]? = some o) (he : e ∈ o.after) (hb : Region.binds .any e = true) (h : Anc os e.on j) : Anc os i j
/-- Does the operation look at a temporary? -/
def Looks (os : List Oper) (o : Oper) (t : Nat) : Prop := (.tmp t ∈ o.op.operands) ∨ ∃ j b oj, o.guard = some (j, b) ∧ os[j]? = some oj ∧ oj.dst = some t

structure DrawFine (cx : Cx) (N : Nat) (os : List Oper) (ds : List Dk) : Prop where
  len : os.length ≤ ds.length
  dst : OpsFine N os
  nf : ∀ (i : Nat) (o : Oper), os[i]? = some o → nfOp o.op = true
  back : ∀ (i : Nat) (o : Oper) (e : Edge), os[i]? = some o → e ∈ o.after → Region.binds .any e = true → e.on < i
  uniq : ∀ (i j : Nat) (o o' : Oper) (d : Nat), os[i]? = some o → os[j]? = some o' → o.dst = some d → o'.dst = some d → i = j
  rd : ∀ (i : Nat) (o : Oper) (lo hi : Nat), os[i]? = some o → ds[i]? = some (.load lo hi) → rdOp cx o.op = true ∧ lo ≤ acts ds os.length
  reads : ∀ (i : Nat) (o : Oper) (t j : Nat) (o' : Oper), os[i]? = some o → Looks os o t → os[j]? = some o' → o'.dst = some t → j = i ∨ Anc os i j ∨ Anc os j i
  chain : ∀ i j : Nat, i < j → j < os.length → ds[i]? = some .eff → ds[j]? = some .eff → Anc os j i
  lo : ∀ i lo hi p : Nat, i < os.length → ds[i]? = some (.load lo hi) → p < os.length → ds[p]? = some .eff → acts ds p < lo → Anc os i p
  hi : ∀ i lo hi p : Nat, i < os.length → ds[i]? = some (.load lo hi) → p < os.length → ds[p]? = some .eff → hi ≤ acts ds p → Anc os p i

theorem Anc.lt {os : List Oper} (hb : ∀ (i : Nat) (o : Oper) (e : Edge), os[i]? = some o → e ∈ o.after → Region.binds .any e = true → e.on < i) {i j : Nat} (h : Anc os i j) : j < i := by
  induction h with
  | edge i o e ho he h => exact hb i o e ho he h
  | trans i j o e ho he h _ ih => have := hb i o e ho he h; omega

/-- A set of operations that holds with each what stands ahead of it. -/
def Down (os : List Oper) (L : Nat → Prop) : Prop := ∀ (i : Nat) (o : Oper) (e : Edge), L i → os[i]? = some o → e ∈ o.after → Region.binds .any e = true → L e.on
theorem Anc.down {os : List Oper} {L : Nat → Prop} (hd : Down os L) {i j : Nat} (h : Anc os i j) (hi : L i) : L j := by
  induction h with
  | edge i o e ho he hb => exact hd i o e hi ho he hb
  | trans i j o e ho he hb _ ih => exact ih (hd i o e hi ho he hb)
theorem Anc.ready {os : List Oper} {L : Nat → Prop} (hd : Down os L) {i j : Nat} (h : Anc os i j) (hr : ∀ (o : Oper) (e : Edge), os[i]? = some o → e ∈ o.after → Region.binds .any e = true → L e.on) : L j := by
  cases h with
  | edge _ o e ho he hb => exact hr o e ho he hb
  | trans _ _ o e ho he hb h => exact h.down hd (hr o e ho he hb)

theorem acts_ex {ds : List Dk} : ∀ {n m : Nat}, n ≤ ds.length → m < acts ds n → ∃ p, p < n ∧ ds[p]? = some .eff ∧ acts ds p = m := by
  intro n
  induction n with
  | zero => intro m _ h; simp [acts] at h
  | succ n ih =>
    intro m hn h
    obtain ⟨d, hd⟩ : ∃ d, ds[n]? = some d := ⟨_, List.getElem?_eq_getElem (by omega)⟩
    rw [acts_succ hd] at h
    by_cases hlt : m < acts ds n
    · obtain ⟨p, h1, h2, h3⟩ := ih (by omega) hlt
      exact ⟨p, by omega, h2, h3⟩
    · cases d with
      | eff => have h' : m < acts ds n + 1 := h; exact ⟨n, by omega, hd, by omega⟩
      | pure => have h' : m < acts ds n + 0 := h; omega
      | load lo hi => have h' : m < acts ds n + 0 := h; omega
theorem acts_inj {ds : List Dk} {i j : Nat} (hi : ds[i]? = some .eff) (hj : ds[j]? = some .eff) (h : acts ds i = acts ds j) : i = j := by
  have h1 : acts ds (i + 1) = acts ds i + 1 := acts_succ hi
  have h2 : acts ds (j + 1) = acts ds j + 1 := acts_succ hj
  rcases Nat.lt_trichotomy i j with h3 | h3 | h3
  · have := acts_mono ds (show i + 1 ≤ j by omega); omega
  · exact h3
  · have := acts_mono ds (show j + 1 ≤ i by omega); omega

/-- What is known of the temporaries at the i-th operation. -/
theorem cur_at {q : Q} {os : List Oper} {ds : List Dk} {fr : F} {S : Nat → Stp} {Hp : Nat → H} (hlen : os.length ≤ ds.length) (hf : ∀ j, j < os.length → Fact q os ds fr os.length S Hp j) (t : Nat) : ∀ i, i ≤ os.length →
    (∃ (j : Nat) (o : Oper), j < i ∧ os[j]? = some o ∧ o.dst = some t ∧ cur q.keep (S i).l (S i).e t = some (S j).x) ∨ ((∀ (j : Nat) (o : Oper), j < i → os[j]? = some o → o.dst ≠ some t) ∧ cur q.keep (S i).l (S i).e t = cur q.keep (S 0).l (S 0).e t) := by
  intro i
  induction i with
  | zero => intro _; exact .inr ⟨fun j o h => by omega, rfl⟩
  | succ i ih =>
    intro hi
    obtain ⟨o, ho⟩ : ∃ o, os[i]? = some o := ⟨_, List.getElem?_eq_getElem (by omega)⟩
    obtain ⟨d, hd⟩ : ∃ d, ds[i]? = some d := ⟨_, List.getElem?_eq_getElem (by omega)⟩
    have hc := (hf i (by omega) o d ho hd).2.2.1 t
    by_cases h : o.dst = some t
    · rw [if_pos h] at hc
      exact .inl ⟨i, o, by omega, ho, h, hc⟩
    · rw [if_neg h] at hc
      rcases ih (by omega) with ⟨j, o', h1, h2, h3, h4⟩ | ⟨h1, h2⟩
      · exact .inl ⟨j, o', by omega, h2, h3, by rw [hc]; exact h4⟩
      · refine .inr ⟨fun j o' hj ho' => ?_, by rw [hc]; exact h2⟩
        by_cases hji : j = i
        · subst hji; rw [ho] at ho'; cases ho'; exact h
        · exact h1 j o' (by omega) ho'

/-- How it stands where some operations are done. -/
structure Inv (P : Program) (q : Q) (N : Nat) (os : List Oper) (ds : List Dk) (S : Nat → Stp) (Hp : Nat → H) (ρ0 : Rho) (h0 : H) (w0 : World) (a0 : Act) (L : Nat → Prop) (m : Nat) (ρ : Rho) (a : Act) (w : World) : Prop where
  down : Down os L
  eff : ∀ p, p < os.length → ds[p]? = some .eff → (L p ↔ acts ds p < m)
  le : m ≤ acts ds os.length
  big : (Hp m).next ≤ big
  hr : HR P ρ (Hp m) w
  st : St ρ0 h0 w0 ρ (Hp m) w
  size : a.tmps.size = N
  defers : a.defers = a0.defers
  vals : ∀ (i : Nat) (o : Oper) (d : Nat), L i → os[i]? = some o → o.dst = some d → RR ρ (S i).x (a.tmps.getD d undef)
  rest : ∀ t : Nat, (∀ (i : Nat) (o : Oper), L i → os[i]? = some o → o.dst ≠ some t) → a.tmps.getD t undef = a0.tmps.getD t undef

theorem Inv.env {q : Q} {N : Nat} {os : List Oper} {ds : List Dk} {fr : F} {S : Nat → Stp} {Hp : Nat → H} {ρ0 : Rho} {h0 : H} {w0 : World} {a0 : Act} {L : Nat → Prop} {m : Nat} {ρ : Rho} {a : Act} {w : World} (D : DrawFine q.cx N os ds) (hf : ∀ j, j < os.length → Fact q os ds fr os.length S Hp j)
    (he0 : ER q.keep ρ0 (S 0).l (S 0).e a0.tmps) (I : Inv P q N os ds S Hp ρ0 h0 w0 a0 L m ρ a w) {i : Nat} {o : Oper} (ho : os[i]? = some o) (hiL : ¬ L i) (hr : ∀ (o : Oper) (e : Edge), os[i]? = some o → e ∈ o.after → Region.binds .any e = true → L e.on) :
    ERT (Looks os o) q.keep ρ (S i).l (S i).e a.tmps := by
  intro t v ht hv
  have hilt : i < os.length := (List.getElem?_eq_some_iff.1 ho).1
  rcases cur_at D.len hf t i (by omega) with ⟨j, o', h1, h2, h3, h4⟩ | ⟨h1, h2⟩
  · rw [h4] at hv; cases hv
    rcases D.reads i o t j o' ho ht h2 h3 with h5 | h5 | h5
    · omega
    · exact I.vals j o' t (h5.ready I.down hr) h2 h3
    · have := h5.lt D.back; omega
  · rw [h2] at hv
    rw [I.rest t fun j o' hj ho' hd => ?_]
    · exact (he0 t v trivial hv).mono I.st.sub
    · have hji : ¬ j < i := fun h => h1 j o' h ho' hd
      rcases D.reads i o t j o' ho ht ho' hd with h5 | h5 | h5
      · subst h5; exact hiL hj
      · exact hji (h5.lt D.back)
      · exact hiL (h5.down I.down hj)
end Go.Ev
end
section
/- Ev, soundness, part 50: a drawing region, in whatever order: its steps and its end. Conditions: none. -/
namespace Go.Ev
set_option linter.unusedVariables false
variable {P : Program} {rv : RV} {rh : H}

section
variable {q : Q} {N : Nat} {os : List Oper} {ds : List Dk} {fr : F} {S : Nat → Stp} {Hp : Nat → H} {ρ0 : Rho} {h0 : H} {w0 : World} {a0 : Act} {L : Nat → Prop} {m : Nat} {ρ : Rho} {a : Act} {w : World}

/-- An operation that acts, and is ready, is the next one. -/
theorem Inv.act (D : DrawFine q.cx N os ds) (I : Inv P q N os ds S Hp ρ0 h0 w0 a0 L m ρ a w) {i : Nat} (hilt : i < os.length) (hd : ds[i]? = some .eff) (hiL : ¬ L i) (hr : ∀ (o : Oper) (e : Edge), os[i]? = some o → e ∈ o.after → Region.binds .any e = true → L e.on) : acts ds i = m := by
  have h1 : ¬ acts ds i < m := fun h => hiL ((I.eff i hilt hd).2 h)
  rcases Nat.lt_or_ge m (acts ds i) with h2 | h2
  · obtain ⟨p, hp1, hp2, hp3⟩ := acts_ex (n := i) (by have := D.len; omega) h2
    have hpL : L p := (D.chain p i hp1 hilt hp2 hd).ready I.down hr
    have := (I.eff p (by omega) hp2).1 hpL
    omega
  · omega

/-- One operation more is done. -/
theorem Inv.put (D : DrawFine q.cx N os ds) (I : Inv P q N os ds S Hp ρ0 h0 w0 a0 L m ρ a w) {i : Nat} {o : Oper} {d : Dk} (ho : os[i]? = some o) (hd : ds[i]? = some d) (hiL : ¬ L i) (hr : ∀ (o : Oper) (e : Edge), os[i]? = some o → e ∈ o.after → Region.binds .any e = true → L e.on)
    {m' : Nat} {ρ' : Rho} {w' : World} {v : Value} (hm : (isEff d = false ∧ m' = m) ∨ (isEff d = true ∧ m' = m + 1)) (hbig : (Hp m').next ≤ Ev.big) (hr' : HR P ρ' (Hp m') w') (hs : St ρ (Hp m) w ρ' (Hp m') w') (hx : RR ρ' (S i).x v) :
    Inv P q N os ds S Hp ρ0 h0 w0 a0 (fun j => L j ∨ j = i) m' ρ' (a.put o.dst v) w' := by
  have hilt : i < os.length := (List.getElem?_eq_some_iff.1 ho).1
  have hact : isEff d = true → acts ds i = m := fun he => by
    have hde : d = .eff := by cases d <;> first | rfl | cases he
    subst hde
    exact I.act D hilt hd hiL hr
  have hdst : ∀ e, o.dst = some e → e < a.tmps.size := fun e he => by
    rw [I.size]; exact D.dst o (List.mem_of_getElem? ho) e he
  refine ⟨?_, ?_, ?_, hbig, hr', I.st.trans hs, by rw [put_size]; exact I.size, by rw [put_defers]; exact I.defers, ?_, ?_⟩
  · intro j o' e hj ho' he hb
    rcases hj with hj | rfl
    · exact .inl (I.down j o' e hj ho' he hb)
    · exact .inl (hr o' e ho' he hb)
  · intro p hp hpe
    rcases hm with ⟨hne, rfl⟩ | ⟨he, rfl⟩
    · rw [← I.eff p hp hpe]
      constructor
      · rintro (h | rfl)
        · exact h
        · rw [hd] at hpe; cases hpe; cases hne
      · exact .inl
    · have hde : d = .eff := by cases d <;> first | rfl | cases he
      subst hde
      have hai := hact he
      constructor
      · rintro (h | rfl)
        · have := (I.eff p hp hpe).1 h; omega
        · omega
      · intro h
        by_cases hpi : p = i
        · exact .inr hpi
        · refine .inl ((I.eff p hp hpe).2 ?_)
          have : acts ds p ≠ acts ds i := fun h => hpi (acts_inj hpe hd h)
          omega
  · rcases hm with ⟨_, rfl⟩ | ⟨he, rfl⟩
    · exact I.le
    · have hde : d = .eff := by cases d <;> first | rfl | cases he
      subst hde
      have h1 : acts ds (i + 1) = acts ds i + 1 := acts_succ hd
      have h2 := acts_mono ds (show i + 1 ≤ os.length by omega)
      have := hact he
      omega
  · intro j o' e hj ho' he
    rw [put_getD hdst]
    rcases hj with hj | rfl
    · have hne : ¬ o.dst = some e := fun h => by
        have := D.uniq i j o o' e ho ho' h he
        subst this; exact hiL hj
      rw [if_neg hne]
      exact (I.vals j o' e hj ho' he).mono hs.sub
    · rw [ho] at ho'; cases ho'
      rw [if_pos he]; exact hx
  · intro t ht
    rw [put_getD hdst, if_neg (ht i o (.inr rfl) ho)]
    exact I.rest t fun j o' hj ho' => ht j o' (.inl hj) ho'

theorem Inv.step (hcx : CxOk P q.cx) (hfs : FieldsOk P) (hcall : CallOk P q.call) (D : DrawFine q.cx N os ds) (hf : ∀ j, j < os.length → Fact q os ds fr os.length S Hp j) (he0 : ER q.keep ρ0 (S 0).l (S 0).e a0.tmps) (I : Inv P q N os ds S Hp ρ0 h0 w0 a0 L m ρ a w)
    {i : Nat} {o : Oper} (ho : os[i]? = some o) (hiL : ¬ L i) (hr : ∀ (o : Oper) (e : Edge), os[i]? = some o → e ∈ o.after → Region.binds .any e = true → L e.on) {K : Act → World → Prop} {Q : Exit → Act → World → Prop}
    (hK : ∀ m' ρ' a' w', Inv P q N os ds S Hp ρ0 h0 w0 a0 (fun j => L j ∨ j = i) m' ρ' a' w' → K a' w') : wpOp P os.toArray Q i K a w := by
  have hilt : i < os.length := (List.getElem?_eq_some_iff.1 ho).1
  obtain ⟨d, hd⟩ : ∃ d, ds[i]? = some d := ⟨_, List.getElem?_eq_getElem (by have := D.len; omega)⟩
  obtain ⟨f1, f2, f3, f4⟩ := hf i hilt o d ho hd
  have henv := I.env D hf he0 ho hiL hr
  have hwant := wantK_val (os := os) (o := o) henv (fun j b oj t h1 h2 h3 => .inr ⟨j, b, oj, h1, h2, h3⟩) f1
  have hT : ∀ x ∈ o.op.operands, Of (Looks os o) x := fun x hx t ht => by subst ht; exact .inl hx
  have hoa : os.toArray[i]? = some o := by simpa using ho
  unfold wpOp
  rw [hoa]
  simp only
  cases hb : (S i).b with
  | false =>
    rw [hwant, hb, if_neg (by simp)]
    have hx := f2 hb
    cases d with
    | pure => exact hK m ρ _ w (I.put D ho hd hiL hr (.inl ⟨rfl, rfl⟩) I.big I.hr (St.refl _ _ _) (by rw [hx]; exact RR.undef ρ))
    | load lo hi => exact hK m ρ _ w (I.put D ho hd hiL hr (.inl ⟨rfl, rfl⟩) I.big I.hr (St.refl _ _ _) (by rw [hx]; exact RR.undef ρ))
    | eff =>
      have hact := I.act D hilt hd hiL hr
      obtain ⟨g1, g2, g3⟩ := f4
      rw [hact] at g1 g3
      refine hK (m + 1) ρ _ w (I.put D ho hd hiL hr (.inr ⟨rfl, rfl⟩) g1 (by rw [g3 hb]; exact I.hr) (by rw [g3 hb]; exact St.refl _ _ _) (by rw [hx]; exact RR.undef ρ))
  | true =>
    rw [hwant, hb, if_pos rfl]
    refine .inl ?_
    unfold Oper.wp
    obtain ⟨n1, n2⟩ := nfOp_ok (D.nf i o ho)
    cases d with
    | pure =>
      obtain ⟨h1, hv, hn⟩ := f4 hb
      have hnx := exO_ok (k := fun v _ h => .ok v h) (kp := fun v h => .pan v h) hcx hfs hcall (big_ok I.hr I.big) I.hr.glob henv hT n1 n2 hv
      refine upon_val hnx fun v w' ρ' r' s' hx => ?_
      obtain ⟨rfl, r2, s2⟩ := thin I.hr I.big hn r' s'
      exact hK m ρ' _ w' (I.put D ho hd hiL hr (.inl ⟨rfl, rfl⟩) I.big r2 s2 hx)
    | load lo hi =>
      have hlo : lo ≤ m := by
        rcases Nat.lt_or_ge m lo with h | h
        · rcases Nat.lt_or_ge m (acts ds os.length) with h2 | h2
          · obtain ⟨p, p1, p2, p3⟩ := acts_ex D.len h2
            have hpL := (D.lo i lo hi p hilt hd p1 p2 (by omega)).ready I.down hr
            have := (I.eff p p1 p2).1 hpL
            omega
          · have := (D.rd i o lo hi ho hd).2; omega
        · exact h
      have hhi : m ≤ hi := by
        rcases Nat.lt_or_ge hi m with h | h
        · obtain ⟨p, p1, p2, p3⟩ := acts_ex D.len (show hi < acts ds os.length by have := I.le; omega)
          have hpL := (I.eff p p1 p2).2 (by omega)
          exact absurd ((D.hi i lo hi p hilt hd p1 p2 (by omega)).down I.down hpL) hiL
        · exact h
      obtain ⟨y, h1, hv, himp⟩ := f4 hb m hlo hhi I.le
      obtain ⟨v, hrun, hy⟩ := exV_rd hcx I.hr henv hT (D.rd i o lo hi ho hd).1 hv
      rw [hrun]
      exact hK m ρ _ w (I.put D ho hd hiL hr (.inl ⟨rfl, rfl⟩) I.big I.hr (St.refl _ _ _) (himp ρ v hy))
    | eff =>
      have hact := I.act D hilt hd hiL hr
      obtain ⟨g1, g2, g3⟩ := f4
      rw [hact] at g1 g2
      have hnx := exO_ok (k := fun v _ h => .ok v h) (kp := fun v h => .pan v h) hcx hfs hcall I.hr I.hr.glob henv hT n1 n2 (g2 hb)
      exact upon_val hnx fun v w' ρ' r' s' hx => hK (m + 1) ρ' _ w' (I.put D ho hd hiL hr (.inr ⟨rfl, rfl⟩) g1 r' s' hx)
end
end Go.Ev
end
section
/- Ev, soundness, part 51: a drawing region, in whatever order: the whole. Conditions: none. -/
namespace Go.Ev
set_option linter.unusedVariables false
variable {P : Program} {rv : RV} {rh : H}

theorem Inv.congr {q : Q} {N : Nat} {os : List Oper} {ds : List Dk} {S : Nat → Stp} {Hp : Nat → H} {ρ0 : Rho} {h0 : H} {w0 : World} {a0 : Act} {L L' : Nat → Prop} {m : Nat} {ρ : Rho} {a : Act} {w : World} (h : ∀ j, L j ↔ L' j) (I : Inv P q N os ds S Hp ρ0 h0 w0 a0 L m ρ a w) : Inv P q N os ds S Hp ρ0 h0 w0 a0 L' m ρ a w := by
  have : L = L' := funext fun j => propext (h j)
  subst this; exact I

/-- How many are not done. -/
def left (listed : Array Bool) : Nat := listed.toList.countP (fun b => !b)
theorem left_set {listed : Array Bool} {i : Nat} (hi : i < listed.size) (h : listed.getD i true = false) : left (listed.setIfInBounds i true) + 1 = left listed := by
  unfold left
  have hg : listed[i] = false := by simpa [Array.getD, hi] using h
  rw [Array.toList_setIfInBounds, List.countP_set (by simpa using hi)]
  have : listed.toList[i]'(by simpa using hi) = false := by simpa using hg
  rw [this]
  have hpos : 0 < listed.toList.countP (fun b => !b) := List.countP_pos_iff.2 ⟨false, by rw [← this]; exact List.getElem_mem _, rfl⟩
  show listed.toList.countP (fun b => !b) - 1 + 0 + 1 = _
  omega

section
variable {q : Q} {N : Nat} {os : List Oper} {ds : List Dk} {fr : F} {S : Nat → Stp} {Hp : Nat → H} {ρ0 : Rho} {h0 : H} {w0 : World} {a0 : Act}

theorem Inv.all (hcx : CxOk P q.cx) (hfs : FieldsOk P) (hcall : CallOk P q.call) (D : DrawFine q.cx N os ds) (hf : ∀ j, j < os.length → Fact q os ds fr os.length S Hp j) (he0 : ER q.keep ρ0 (S 0).l (S 0).e a0.tmps) {Q : Exit → Act → World → Prop}
    (hQ : ∀ m ρ a w, Inv P q N os ds S Hp ρ0 h0 w0 a0 (fun j => j < os.length) m ρ a w → Q .normal a w) : ∀ (fuel : Nat) (listed : Array Bool) (m : Nat) (ρ : Rho) (a : Act) (w : World), listed.size = os.length → left listed ≤ fuel →
      Inv P q N os ds S Hp ρ0 h0 w0 a0 (fun j => listed.getD j false = true) m ρ a w → wpAny P .any os.toArray Q fuel listed a w := by
  have hall : ∀ listed : Array Bool, listed.size = os.length → Region.ready .any os.toArray listed = [] → ∀ j, j < os.length → listed.getD j false = true := by
    intro listed hsz hr j
    induction j using Nat.strongRecOn with
    | _ j ih =>
      intro hj
      cases hb : listed.getD j true with
      | true => simpa [Array.getD, hsz, hj] using hb
      | false =>
        have : j ∈ Region.ready .any os.toArray listed := by
          rw [mem_ready]
          refine ⟨hb, os[j], by simp [hj], fun e he hb => ?_⟩
          have hlt := D.back j os[j] e (List.getElem?_eq_getElem hj) he hb
          exact ih e.on hlt (by omega)
        rw [hr] at this; cases this
  have hdone : ∀ (listed : Array Bool) (m : Nat) (ρ : Rho) (a : Act) (w : World), listed.size = os.length → Inv P q N os ds S Hp ρ0 h0 w0 a0 (fun j => listed.getD j false = true) m ρ a w → Region.ready .any os.toArray listed = [] → Q .normal a w := fun listed m ρ a w hsz I hr => by
    refine hQ m ρ a w (I.congr fun j => ⟨fun h => ?_, fun h => hall listed hsz hr j h⟩)
    rcases Nat.lt_or_ge j os.length with h1 | h1
    · exact h1
    · have : listed.getD j false = false := by simp [Array.getD, hsz, Nat.not_lt.2 h1]
      rw [this] at h; cases h
  intro fuel
  induction fuel with
  | zero =>
    intro listed m ρ a w hsz hl I
    have hr : Region.ready .any os.toArray listed = [] := by
      cases hr : Region.ready .any os.toArray listed with
      | nil => rfl
      | cons j l =>
        have hj : j ∈ Region.ready .any os.toArray listed := by rw [hr]; exact .head _
        obtain ⟨h1, o, ho, _⟩ := mem_ready.1 hj
        have hjl : j < os.length := by
          have : os[j]? = some o := by simpa using ho
          exact (List.getElem?_eq_some_iff.1 this).1
        have := left_set (listed := listed) (i := j) (by omega) h1
        omega
    exact ⟨hr, hdone listed m ρ a w hsz I hr⟩
  | succ fuel ih =>
    intro listed m ρ a w hsz hl I
    refine ⟨hdone listed m ρ a w hsz I, fun i hi => ?_⟩
    obtain ⟨h1, o, ho, hr⟩ := mem_ready.1 hi
    have ho' : os[i]? = some o := by simpa using ho
    have hil : i < os.length := (List.getElem?_eq_some_iff.1 ho').1
    have hnot : ¬ listed.getD i false = true := by
      have : listed.getD i false = listed.getD i true := by simp [Array.getD, hsz, hil]
      rw [this, h1]; simp
    refine I.step hcx hfs hcall D hf he0 ho' hnot (fun o' e h2 he hb => ?_) fun m' ρ' a' w' I' => ?_
    · rw [ho'] at h2; cases h2
      exact hr e he hb
    · refine ih _ m' ρ' a' w' (by simpa using hsz) (by have := left_set (listed := listed) (i := i) (by omega) h1; omega) (I'.congr fun j => ?_)
      by_cases hji : i = j
      · subst hji
        simp [hsz, hil]
      · have : (listed.setIfInBounds i true).getD j false = listed.getD j false := getD_set_ne false hji
        simp only [this]
        exact ⟨fun h => h.resolve_right (fun h => hji h.symm), .inl⟩
end

theorem regD_ok (hmix : P.follows .mixedOrders = true) {dm : Option Md} {q : Q} (hcx : CxOk P q.cx) (hfs : FieldsOk P) (hcall : CallOk P q.call) {N id : Nat} {ops : Array Oper} {ds : List Dk} (D : DrawFine q.cx N ops.toList ds) {ρ : Rho} {e : Env} {fr : F} {h : H} {a : Act} {u : FrameMode} {w : World} {kN : KE} {kX : Nat → KE} {kR : KE} {kP : KQ}
    (f : FrR P dm q.keep N ρ .nil e fr h a u w) (e1 : regD ops.toList ds q e fr h kN kP = .ok rv rh) : GWp P dm.isSome (.region id ops true) (Post P rv rh dm q.keep N ρ h w kN kX kR kP) a u w := by
  obtain ⟨hbig, e2⟩ := ifB_t e1
  rw [Nat.ble_eq, H.nx_eq] at hbig
  obtain ⟨S, Hp, hS1, hS2, hH, hf, _, hk⟩ := opsD_trace (q := q) (os := ops.toList) (ds := ds) (fr := fr) (k := fun e h => kN e fr h) D.len ops.toList 0 rfl (Nat.zero_le _) (l := .nil) (e := e) (h := h) (hs := []) (pl := .nil) (Hold := fun _ => h) rfl (fun j hj => by simp [acts] at hj) rfl (by simpa [acts] using e2)
  have hH0 : Hp 0 = h := hH 0 (Nat.zero_le _)
  refine .of_wp (wp_region_draw fun t => ?_)
  have he0 : ER q.keep ρ (S 0).l (S 0).e a.tmps := by rw [hS1, hS2]; exact f.env
  have main : wpAny P .any ops (fun ex a' w' => Post P rv rh dm q.keep N ρ h w kN kX kR kP ex a' u w') ops.size (Array.replicate ops.size false) a { w with drawn := w.drawn + 1 } := by
    have h1 := Inv.all (P := P) (q := q) (N := N) (S := S) (Hp := Hp) (ρ0 := ρ) (h0 := h) (w0 := w) (a0 := a) (Q := fun ex a' w' => Post P rv rh dm q.keep N ρ h w kN kX kR kP ex a' u w') hcx hfs hcall D (fun j hj => hf j (Nat.zero_le _) hj) he0 (fun m ρ' a' w' I => ?_) ops.size (Array.replicate ops.size false) 0 ρ a { w with drawn := w.drawn + 1 } (by simp) ?_ ?_
    · simpa using h1
    · have hm : m = acts ds ops.toList.length := by
        rcases Nat.lt_or_ge m (acts ds ops.toList.length) with h2 | h2
        · obtain ⟨p, p1, p2, p3⟩ := acts_ex D.len h2
          have := (I.eff p p1 p2).1 p1
          omega
        · have := I.le; omega
      subst hm
      refine ⟨(S ops.toList.length).e, fr, _, ρ', hk, ⟨I.hr, I.hr.glob, fun t v _ hv => ?_, I.size, ?_, f.rc.mono I.st.sub⟩, I.st⟩
      · unfold cur at hv
        by_cases hkt : kept q.keep t = true
        · rw [if_pos hkt] at hv
          have hv' : cur q.keep (S ops.toList.length).l (S ops.toList.length).e t = some v := by unfold cur; rw [if_pos hkt]; exact hv
          rcases cur_at D.len (fun j hj => hf j (Nat.zero_le _) hj) t ops.toList.length (Nat.le_refl _) with ⟨j, o', q1, q2, q3, q4⟩ | ⟨q1, q2⟩
          · rw [q4] at hv'; cases hv'
            exact I.vals j o' t q1 q2 q3
          · rw [q2] at hv'
            rw [I.rest t fun j o' hj ho' => q1 j o' hj ho']
            exact (he0 t v trivial hv').mono I.st.sub
        · rw [if_neg hkt] at hv; cases hv
      · rw [I.defers]; exact f.ds.mono I.st.sub
    · unfold left
      have := List.countP_le_length (p := fun b => !b) (l := (Array.replicate ops.size false).toList)
      simpa using this
    · have hnone : ∀ j, ¬ (Array.replicate ops.size false).getD j false = true := fun j => by
        simp [Array.getD]
      refine ⟨fun i o e hi => absurd hi (hnone i), fun p _ _ => ⟨fun h => absurd h (hnone p), fun h => by omega⟩, Nat.zero_le _, by rw [hH0]; exact hbig, by rw [hH0]; exact f.hr.drew _, by rw [hH0]; exact St.drew _ _ _ _, f.size, rfl, fun i o d hi => absurd hi (hnone i), fun t _ => rfl⟩
  simp only [Region.schedule, hmix, Bool.true_or, if_true]
  exact wpAny_sound ops.size t _ a _ main
end Go.Ev
end

/- An evaluator of programs by terms that the kernel reduces, and the laws that it tells the truth. Conditions: none. -/
import Derived.Laws.Strings
import Derived.Laws.Concat
import Derived.Laws.MakeOwn
import Derived.Test.YtcjpaobmdfnpiaaGreatDoorEv1
set_option linter.all false
section
/- Ev, soundness, part 7: texts; comparing. Conditions: none. -/
namespace Go.Ev
set_option linter.unusedVariables false
variable {P : Program} {rv : RV} {rh : H}

theorem lappK_eq (a b : List UInt8) : ∀ k, lappK a b k = k (a ++ b) := by
  induction a with
  | nil => intro k; rfl
  | cons x l ih => intro k; show lappK l b (fun m => k (x :: m)) = _; rw [ih]; rfl
theorem llen_eq {α : Type} (a : List α) : llen a = a.length := by
  have key : ∀ (a : List α) (n : Nat), (List.rec (motive := fun _ => Nat → Nat) (fun n => n) (fun _ _ ih n => ih (Nat.succ n)) a : Nat → Nat) n = a.length + n := by
    intro a
    induction a with
    | nil => intro n; simp
    | cons x l ih => intro n; show (List.rec (motive := fun _ => Nat → Nat) (fun n => n) (fun _ _ ih n => ih (Nat.succ n)) l : Nat → Nat) (n + 1) = _; rw [ih]; simp; omega
  simpa [llen] using key a 0
theorem leq_eq (a : List UInt8) : ∀ b, leq a b = (a == b) := by
  induction a with
  | nil => intro b; cases b <;> rfl
  | cons x l ih =>
    intro b
    cases b with
    | nil => rfl
    | cons y m =>
      show ifB (Nat.beq x.toNat y.toNat) (leq l m) false = _
      rw [beq_dec, ifB_dec, ih]
      by_cases h : x = y
      · subst h; rw [if_pos rfl]; simp
      · have : ¬ x.toNat = y.toNat := fun e => h (UInt8.toNat_inj.1 e)
        rw [if_neg this]; simp [h]
theorem llt_eq (a : List UInt8) : ∀ b, llt a b = Op.bytesLess a b := by
  induction a with
  | nil => intro b; cases b <;> rfl
  | cons x l ih =>
    intro b
    cases b with
    | nil => rfl
    | cons y m =>
      show ifB (Nat.blt x.toNat y.toNat) true (ifB (Nat.beq x.toNat y.toNat) (llt l m) false) = _
      rw [blt_dec, ifB_dec, beq_dec, ifB_dec, ih]
      simp only [Op.bytesLess]
      by_cases h : x < y
      · have : x.toNat < y.toNat := UInt8.lt_iff_toNat_lt.1 h
        simp [h, this]
      · have h1 : ¬ x.toNat < y.toNat := fun e => h (UInt8.lt_iff_toNat_lt.2 e)
        by_cases h2 : x = y
        · subst h2; simp
        · have : ¬ x.toNat = y.toNat := fun e => h2 (UInt8.toNat_inj.1 e)
          simp [h, h1, h2, this]
theorem lget_eq {α : Type} (a : List α) : ∀ n, lget a n = a[n]? := by
  induction a with
  | nil => intro n; simp [lget]
  | cons x l ih => intro n; cases n with
    | zero => rfl
    | succ n => show lget l n = _; rw [ih]; simp
theorem ldropK_eq {α : Type} (n : Nat) : ∀ (l : List α) (k : List α → RT), ldropK n l k = k (l.drop n) := by
  induction n with
  | zero => intro l k; rfl
  | succ n ih => intro l k; cases l with
    | nil => rfl
    | cons x t => show ldropK n t k = _; rw [ih]; rfl
theorem ltakeK_eq {α : Type} (n : Nat) : ∀ (l : List α) (k : List α → RT), ltakeK n l k = k (l.take n) := by
  induction n with
  | zero => intro l k; rfl
  | succ n ih => intro l k; cases l with
    | nil => rfl
    | cons x t => show ltakeK n t (fun m => k (x :: m)) = _; rw [ih]; rfl

/-- A text's bytes as cells. -/
def byteCells (l : List UInt8) : List Ce := l.map fun x => .i .u8 (.ofNat x.toNat)
theorem csOfK_gives (l : List UInt8) : Gives (csOfK l) (byteCells l) := by
  have key : ∀ (l : List UInt8) (c : Cs), c.good → Gives (fun k => (List.rec (motive := fun _ => Cs → RT) k (fun x _ ih c => natK x.toNat fun n => c.mkK (.rep 1 (.i .u8 (.ofNat n))) ih) l : Cs → RT) c) (c.l ++ byteCells l) := by
    intro l
    induction l with
    | nil => intro c hc; exact ⟨c, fun _ => rfl, hc, by simp [byteCells]⟩
    | cons x l ih =>
      intro c hc
      obtain ⟨d, hk, hg, hl⟩ := Cs.mkK_gives hc (b := .rep 1 (.i .u8 (.ofNat x.toNat))) trivial
      obtain ⟨f, hk2, hg2, hl2⟩ := ih d hg
      refine ⟨f, fun k => ?_, hg2, by rw [hl2, hl]; simp [Cs.l, byteCells]⟩
      show natK x.toNat (fun n => c.mkK (.rep 1 (.i .u8 (.ofNat n))) (List.rec (motive := fun _ => Cs → RT) k (fun x _ ih c => natK x.toNat fun n => c.mkK (.rep 1 (.i .u8 (.ofNat n))) ih) l)) = _
      rw [natK_eq, hk]; exact hk2 k
  exact key l .nil trivial
theorem byteCells_toV (l : List UInt8) : (byteCells l).map Ce.toV = l.map fun x => .int .u8 x.toNat := by simp [byteCells, Ce.toV]

theorem bytesK_ok {c : Cs} {k : List UInt8 → RT} (e : bytesK c k = .ok rv rh) : ∃ l, k l = .ok rv rh ∧ ∃ ns : List Nat, c.l = ns.map (fun n => .i .u8 (.ofNat n)) ∧ l = ns.map UInt8.ofNat := by
  have key : ∀ (vs : List Ce) (k : List UInt8 → RT), (List.rec (motive := fun _ => (List UInt8 → RT) → RT) (fun k => k []) (fun v _ ih k => onInt v fun kd n => ifB (kindEq kd .u8) (iabs n fun m => ih fun l => k (UInt8.ofNat m :: l)) (.err "byte expected")) vs : (List UInt8 → RT) → RT) k = .ok rv rh →
      ∃ l, k l = .ok rv rh ∧ ∃ ns : List Nat, vs = ns.map (fun n => .i .u8 (.ofNat n)) ∧ l = ns.map UInt8.ofNat := by
    intro vs
    induction vs with
    | nil => intro k e; exact ⟨[], e, [], rfl, rfl⟩
    | cons v vs ih =>
      intro k e
      obtain ⟨kd, n, hv, e⟩ := onInt_ok e
      obtain ⟨hk, e⟩ := ifB_t e
      obtain ⟨m, hm, e⟩ := iabs_ok e
      obtain ⟨l, h1, ns, h2, h3⟩ := ih _ e
      exact ⟨_, h1, m :: ns, by rw [hv, hm, kindEq_spec hk, h2]; rfl, by rw [h3]; rfl⟩
  rw [← Cs.toL_eq]
  exact key _ _ e

theorem toList_mk (l : List UInt8) : (ByteArray.mk ⟨l⟩).toList = l := by
  rw [ByteArray.toList_eq]

theorem bytesLess_tri : ∀ (a b : List UInt8), (Op.bytesLess a b || a == b) = !Op.bytesLess b a
  | [], [] => rfl
  | [], _ :: _ => rfl
  | _ :: _, [] => rfl
  | x :: l, y :: m => by
    have ih := bytesLess_tri l m
    simp only [Op.bytesLess]
    rcases Nat.lt_trichotomy x.toNat y.toNat with h | h | h
    · have h1 : x < y := UInt8.lt_iff_toNat_lt.2 h
      have h2 : ¬ y < x := fun e => by have := UInt8.lt_iff_toNat_lt.1 e; omega
      have h3 : ¬ x = y := fun e => by subst e; omega
      have h4 : ¬ y = x := fun e => h3 e.symm
      simp [h1, h2, h4]
    · have h3 : x = y := UInt8.toNat_inj.1 h
      subst h3
      have h2 : ¬ x < x := fun e => by have := UInt8.lt_iff_toNat_lt.1 e; omega
      simpa [h2] using ih
    · have h1 : y < x := UInt8.lt_iff_toNat_lt.2 h
      have h2 : ¬ x < y := fun e => by have := UInt8.lt_iff_toNat_lt.1 e; omega
      have h3 : ¬ x = y := fun e => by subst e; omega
      simp [h1, h2, h3]

theorem sOp_ok {o : BinOp} {a b : List UInt8} {t : TypeId} {q : Ce → RT} (e : sOp o a b q = .ok rv rh) :
    ∃ c, q c = .ok rv rh ∧ (∀ ρ, CR ρ c c.toV) ∧ ∀ w, (binOp o t (.string ⟨⟨a⟩⟩) (.string ⟨⟨b⟩⟩)).run P w = .ok c.toV w := by
  have hb : ∀ w, (binOp o t (.string ⟨⟨a⟩⟩) (.string ⟨⟨b⟩⟩)).run P w = (Op.stringOp o ⟨⟨a⟩⟩ ⟨⟨b⟩⟩).run P w := fun w => by cases o <;> rfl
  cases o <;> try (exact absurd e (by intro h; cases h))
  case add =>
    replace e := ifB_t e
    obtain ⟨hl, e⟩ := e
    rw [llen_eq, llen_eq, Nat.ble_eq] at hl
    rw [lappK_eq] at e
    refine ⟨_, e, fun _ => (by first | exact VR.int _ _ | exact VR.bool _ | exact VR.str _), fun w => ?_⟩
    have hs : ((⟨⟨a⟩⟩ : ByteArray).size + (⟨⟨b⟩⟩ : ByteArray).size : Nat) = a.length + b.length := rfl
    have hadd : (⟨⟨a⟩⟩ : ByteArray) ++ ⟨⟨b⟩⟩ = ⟨⟨a ++ b⟩⟩ := by apply ByteArray.ext; simp
    have hn : ¬ (((a.length + b.length : Nat) : Int) > IntKind.i64.max) := by simp [IntKind.max, IntKind.signed, IntKind.bits]; omega
    rw [hb]
    simp only [Op.stringOp, hs, if_neg hn, hadd]
    rfl
  case eql => simp only [sOp, boolK_eq, leq_eq] at e; exact ⟨_, e, fun _ => (by first | exact VR.int _ _ | exact VR.bool _ | exact VR.str _), fun w => by rw [hb]; simp [Op.stringOp, Ce.toV]⟩
  case neq => simp only [sOp, boolK_eq, leq_eq, notB_eq] at e; exact ⟨_, e, fun _ => (by first | exact VR.int _ _ | exact VR.bool _ | exact VR.str _), fun w => by rw [hb]; simp [Op.stringOp, Ce.toV]⟩
  case lss => simp only [sOp, boolK_eq, llt_eq] at e; exact ⟨_, e, fun _ => (by first | exact VR.int _ _ | exact VR.bool _ | exact VR.str _), fun w => by rw [hb]; simp [Op.stringOp, Ce.toV]⟩
  case leq => simp only [sOp, boolK_eq, llt_eq, notB_eq] at e; exact ⟨_, e, fun _ => (by first | exact VR.int _ _ | exact VR.bool _ | exact VR.str _), fun w => by rw [hb]; simp only [Op.stringOp, toList_mk, Ce.toV, bytesLess_tri]; rfl⟩
  case gtr => simp only [sOp, boolK_eq, llt_eq] at e; exact ⟨_, e, fun _ => (by first | exact VR.int _ _ | exact VR.bool _ | exact VR.str _), fun w => by rw [hb]; simp only [Op.stringOp, toList_mk, Ce.toV, bytesLess_tri, Bool.not_not]; rfl⟩
  case geq => simp only [sOp, boolK_eq, llt_eq, notB_eq] at e; exact ⟨_, e, fun _ => (by first | exact VR.int _ _ | exact VR.bool _ | exact VR.str _), fun w => by rw [hb]; simp [Op.stringOp, Ce.toV]⟩
end Go.Ev
end
section
/- Ev, soundness, part 8: equality. Conditions: none. -/
namespace Go.Ev
set_option linter.unusedVariables false
variable {P : Program} {rv : RV} {rh : H}

/-- The kinds of eqTy. -/
def EqKind (P : Program) (t i : Nat) : Prop :=
  (i = 5 ∧ P.underlying t = some .bool) ∨ (i = 0 ∧ P.underlying t = some .unsafePointer) ∨ (i = 0 ∧ ∃ el ti, P.underlying t = some (.pointer el) ∧ P.info? el = some ti ∧ ti.size ≠ 0) ∨
  (i = 1 ∧ ∃ el, P.underlying t = some (.slice el)) ∨ (i = 2 ∧ ∃ a b, P.underlying t = some (.map a b)) ∨ (i = 3 ∧ ∃ a b c, P.underlying t = some (.func a b c)) ∨ (i = 4 ∧ ∃ ms, P.underlying t = some (.interface ms))

theorem eqTy_ok {cx : Cx} (hcx : CxOk P cx) {t i : Nat} {k : RT} (e : eqTy cx t i k = .ok rv rh) : k = .ok rv rh ∧ EqKind P t i := by
  obtain ⟨d, hu, e⟩ := underK_ok hcx e
  have beq : ∀ {n : Nat} {x : RT}, ifB (Nat.beq i n) x eT = .ok rv rh → i = n ∧ x = .ok rv rh := fun h => let ⟨h1, h2⟩ := ifB_t h; ⟨Nat.eq_of_beq_eq_true h1, h2⟩
  cases d with
  | bool => obtain ⟨h1, h2⟩ := beq (n := 5) e; exact ⟨h2, .inl ⟨h1, hu⟩⟩
  | unsafePointer => obtain ⟨h1, h2⟩ := beq (n := 0) e; exact ⟨h2, .inr (.inl ⟨h1, hu⟩)⟩
  | pointer el =>
    obtain ⟨h1, h2⟩ := beq (n := 0) e
    obtain ⟨ti, h3, h4⟩ := tyK_ok hcx h2
    obtain ⟨h5, h6⟩ := ifB_e h4
    exact ⟨h6, .inr (.inr (.inl ⟨h1, el, ti, hu, h3, fun h => by rw [h] at h5; cases h5⟩))⟩
  | slice el => obtain ⟨h1, h2⟩ := beq (n := 1) e; exact ⟨h2, .inr (.inr (.inr (.inl ⟨h1, el, hu⟩)))⟩
  | map a b => obtain ⟨h1, h2⟩ := beq (n := 2) e; exact ⟨h2, .inr (.inr (.inr (.inr (.inl ⟨h1, a, b, hu⟩))))⟩
  | func a b c => obtain ⟨h1, h2⟩ := beq (n := 3) e; exact ⟨h2, .inr (.inr (.inr (.inr (.inr (.inl ⟨h1, a, b, c, hu⟩)))))⟩
  | interface ms => obtain ⟨h1, h2⟩ := beq (n := 4) e; exact ⟨h2, .inr (.inr (.inr (.inr (.inr (.inr ⟨h1, ms, hu⟩)))))⟩
  | _ => cases e

/-- Of which kind of nil is a value? -/
inductive NilK : Value → Nat → Bool → Prop
  | np : NilK (.pointer none) 0 true
  | p (a : Addr) : NilK (.pointer (some a)) 0 false
  | ns (n m : Nat) : NilK (.slice none n m) 1 true
  | s (a : Addr) (n m : Nat) : NilK (.slice (some a) n m) 1 false
  | nm : NilK (.map none) 2 true
  | m (r : Nat) : NilK (.map (some r)) 2 false
  | nf : NilK .nilFunc 3 true
  | f (fn : Fn) (a b : Array Value) : NilK (.func fn a b) 3 false
  | ni : NilK .nilIface 4 true
  | i (t : Nat) (v : Value) : NilK (.iface t v) 4 false

theorem nilKind_ok {v : Value} {k : Nat → Bool → RT} (e : nilKind v k = .ok rv rh) : ∃ i b, NilK v i b ∧ k i b = .ok rv rh := by
  cases v with
  | pointer a => cases a with
    | none => exact ⟨_, _, .np, e⟩
    | some a => cases e
  | slice a n m => cases a with
    | none => exact ⟨_, _, .ns n m, e⟩
    | some a => cases e
  | map a => cases a with
    | none => exact ⟨_, _, .nm, e⟩
    | some a => exact ⟨_, _, .m a, e⟩
  | func f a b => exact ⟨_, _, .f f a b, e⟩
  | nilFunc => exact ⟨_, _, .nf, e⟩
  | iface t v => exact ⟨_, _, .i t v, e⟩
  | nilIface => exact ⟨_, _, .ni, e⟩
  | _ => cases e
theorem NilK.rel {ρ : Rho} {v v' : Value} {i : Nat} {b : Bool} (h : NilK v i b) (r : CR ρ (.v v) v') : NilK v' i b := by
  cases h <;> cases r <;> constructor

/-- Two values of one kind, one of them nil. -/
theorem equal_nil {t i : Nat} {x y : Value} {a b : Bool} (hk : EqKind P t i) (hx : NilK x i a) (hy : NilK y i b) (hab : a = true ∨ b = true) (w : World) :
    (Op.equal t x y).run P w = .ok (a && b) w := by
  have hunf : Op.equal t x y = Op.equalIn (9999 + 1) t x y := rfl
  rw [hunf]
  rcases hk with ⟨rfl, hu⟩ | ⟨rfl, hu⟩ | ⟨rfl, el, ti, hu, hi, hs⟩ | ⟨rfl, el, hu⟩ | ⟨rfl, k, el, hu⟩ | ⟨rfl, p, q, r, hu⟩ | ⟨rfl, ms, hu⟩ <;> cases hx <;> cases hy <;> first
    | (simp at hab; done)
    | (unfold Op.equalIn; rw [Sem.run_bind, run_underlying hu w]; simp [samePointer])

theorem eqK_ok {ρ : Rho} {t i : Nat} {x y : Ce} {x' y' : Value} {q : Bool → RT} (hk : EqKind P t i) (hx : CR ρ x x') (hy : CR ρ y y') (hi : (∃ a, x = .b a ∧ i = 5) ∨ (∃ h o, x = .p h o ∧ i = 0) ∨ (∃ h o n m, x = .sl h o n m ∧ i = 1) ∨ (∃ v b, x = .v v ∧ NilK v i b))
    (e : eqK x y q = .ok rv rh) : ∃ b, q b = .ok rv rh ∧ ∀ w, (Op.equal t x' y').run P w = .ok b w := by
  have hnil : ∀ {i : Nat} {a : Bool} {x' : Value}, EqKind P t i → NilK x' i a → eqNil y i a q = .ok rv rh → ∃ b, q b = .ok rv rh ∧ ∀ w, (Op.equal t x' y').run P w = .ok b w := by
    intro i a x' hk hx e
    have fin : ∀ {j : Nat} {b : Bool} {y' : Value}, NilK y' j b → nilEq i j a b q = .ok rv rh → ∃ r, q r = .ok rv rh ∧ ∀ w, (Op.equal t x' y').run P w = .ok r w := by
      intro j b y' hy e
      obtain ⟨h1, e1⟩ := ifB_t e
      have := Nat.eq_of_beq_eq_true h1
      subst this
      clear e
      cases a with
      | true => exact ⟨b, (by cases b <;> exact e1), fun w => by rw [equal_nil hk hx hy (.inl rfl) w]; rfl⟩
      | false => cases b with
        | true => exact ⟨false, e1, fun w => by rw [equal_nil hk hx hy (.inr rfl) w]; rfl⟩
        | false => cases e1
    cases y with
    | p h o => cases hy with | p _ _ b base ex he => exact fin (.p _) e
    | sl h o n m => cases hy with | sl _ _ _ _ b base ex he => exact fin (.s _ _ _) e
    | v w => obtain ⟨j, b, h1, e1⟩ := nilKind_ok (v := w) (k := fun j b => nilEq i j a b q) e; exact fin (h1.rel hy) e1
    | _ => cases e
  rcases hi with ⟨a, rfl, rfl⟩ | ⟨h, o, rfl, rfl⟩ | ⟨h, o, n, m, rfl, rfl⟩ | ⟨v, b, rfl, hb⟩
  · obtain ⟨b, rfl, e1⟩ := onBool_ok (k := fun b => boolK (boolEq a b) q) e
    rw [boolK_eq, boolEq_eq] at e1
    cases hx; cases hy
    refine ⟨_, e1, fun w => ?_⟩
    have hunf : Op.equal t (.bool a) (.bool b) = Op.equalIn (9999 + 1) t (.bool a) (.bool b) := rfl
    rw [hunf]
    rcases hk with ⟨_, hu⟩ | ⟨h0, hu⟩ | ⟨h0, el, ti, hu, hi, hs⟩ | ⟨h0, el, hu⟩ | ⟨h0, k, el, hu⟩ | ⟨h0, p, q, r, hu⟩ | ⟨h0, ms, hu⟩
    · unfold Op.equalIn; rw [Sem.run_bind, run_underlying hu w]; simp
    all_goals cases h0
  · cases hx with
    | p _ _ b base ex he =>
    cases y with
    | p h2 o2 =>
      obtain ⟨h1, e1⟩ := ifB_t e
      have := Nat.eq_of_beq_eq_true h1
      subst this
      clear e
      cases hy with
      | p _ _ b' base' ex' he' =>
      rw [he] at he'; cases he'
      rw [boolK_eq, beq_dec] at e1
      refine ⟨_, e1, fun w => ?_⟩
      have hunf : ∀ x y, Op.equal t x y = Op.equalIn (9999 + 1) t x y := fun _ _ => rfl
      have hsame : (sameAddr ⟨b, base + o, none⟩ ⟨b, base + o2, none⟩).run P w = .ok (decide (o = o2)) w := by
        have : ((⟨b, base + o, none⟩ : Addr) == ⟨b, base + o2, none⟩) = decide (o = o2) := by
          rw [Bool.eq_iff_iff]; simp
        simp [sameAddr, this]
      rw [hunf]
      rcases hk with ⟨h0, hu⟩ | ⟨_, hu⟩ | ⟨_, el, ti, hu, hi, hs⟩ | ⟨h0, _⟩ | ⟨h0, _⟩ | ⟨h0, _⟩ | ⟨h0, _⟩
      · cases h0
      · unfold Op.equalIn; rw [Sem.run_bind, run_underlying hu w]; simpa [samePointer] using hsame
      · unfold Op.equalIn; rw [Sem.run_bind, run_underlying hu w]
        simp only [Result.andThen_ok]
        rw [Sem.run_bind, run_sizeOf hi w]
        simpa [hs] using hsame
      all_goals cases h0
    | v w' => exact hnil hk (.p _) e
    | _ => cases e
  · cases hx with
    | sl _ _ _ _ b base ex he => exact hnil hk (.s _ _ _) e
  · obtain ⟨j, a, h1, e1⟩ := nilKind_ok (v := v) (k := fun i a => eqNil y i a q) e
    have : j = i := by cases h1 <;> cases hb <;> rfl
    subst this
    exact hnil hk (h1.rel hx) e1
end Go.Ev
end
section
/- Ev, soundness, part 9: the operators of two operands, of one. Conditions: none. -/
namespace Go.Ev
set_option linter.unusedVariables false
variable {P : Program} {rv : RV} {rh : H}

/-- Two values that the guard of '==' lets pass. -/
def passes (X Y : Operand) (a b : Value) : Prop := (∀ c d, ¬ (a = .agg c ∧ b = .agg d)) ∧ (a = .nilIface → b = .nilIface → (isLit X || isLit Y) = true)

theorem run_eqGuard {o : BinOp} {t : TypeId} {X Y : Operand} {a b : Value} (h : passes X Y a b) (w : World) : (eqGuard o t X Y a b).run P w = .ok () w := by
  unfold eqGuard
  cases o <;> try rfl
  all_goals (cases a <;> cases b <;> first
      | rfl
      | exact absurd ⟨rfl, rfl⟩ (h.1 _ _)
      | (have := h.2 rfl rfl; cases X <;> cases Y <;> first | rfl | (cases this)))

theorem isLit_eq (o : Operand) : isLit o = (o matches .const _) := by cases o <;> rfl
theorem orB_eq (a b : Bool) : orB a b = (a || b) := by cases a <;> rfl

theorem eqOp_ok {o : BinOp} {k : (Bool → Ce) → RT} (e : eqOp o k = .ok rv rh) : (o = .eql ∧ k (fun b => .b b) = .ok rv rh) ∨ (o = .neq ∧ k (fun b => .b (notB b)) = .ok rv rh) := by
  cases o <;> first
    | (cases e; done)
    | exact .inl ⟨rfl, e⟩
    | exact .inr ⟨rfl, e⟩

/-- '==' and '!=' of values that are no numbers and no texts. -/
def plainEq : Value → Prop
  | .int _ _ | .float _ _ | .complex _ _ _ | .string _ => False
  | _ => True
theorem run_binOp_eq {t : TypeId} {x y : Value} (hx : plainEq x) {b : Bool} {w : World} (h : (Op.equal t x y).run P w = .ok b w) :
    (binOp .eql t x y).run P w = .ok (.bool b) w ∧ (binOp .neq t x y).run P w = .ok (.bool !b) w := by
  cases x <;> first
    | exact hx.elim
    | (constructor <;> (unfold binOp; simp only []; rw [Sem.run_bind, h]; rfl))

theorem binS_ok {cx : Cx} (hcx : CxOk P cx) {ρ : Rho} {o : BinOp} {t : Nat} {X Y : Operand} {x y : Ce} {x' y' : Value} {q : Ce → RT} (hx : CR ρ x x') (hy : CR ρ y y')
    (e : binS cx o t (orB (isLit X) (isLit Y)) x y q = .ok rv rh) :
    ∃ c v, q c = .ok rv rh ∧ CR ρ c v ∧ ∀ w, (do eqGuard o t X Y x' y'; binOp o t x' y').run P w = .ok v w := by
  have fin : ∀ {i : Nat}, EqKind P t i → ((∃ a, x = .b a ∧ i = 5) ∨ (∃ h o, x = .p h o ∧ i = 0) ∨ (∃ h o n m, x = .sl h o n m ∧ i = 1) ∨ (∃ v b, x = .v v ∧ NilK v i b)) → passes X Y x' y' → plainEq x' → eqR o x y q = .ok rv rh →
      ∃ c v, q c = .ok rv rh ∧ CR ρ c v ∧ ∀ w, (do eqGuard o t X Y x' y'; binOp o t x' y').run P w = .ok v w := by
    intro i hk hi hp hpl e
    rcases eqOp_ok e with ⟨rfl, e1⟩ | ⟨rfl, e1⟩
    · obtain ⟨b, e2, h⟩ := eqK_ok hk hx hy hi e1
      exact ⟨_, .bool b, e2, .bool b, fun w => by rw [Sem.run_bind, run_eqGuard hp w]; exact (run_binOp_eq hpl (h w)).1⟩
    · obtain ⟨b, e2, h⟩ := eqK_ok hk hx hy hi e1
      refine ⟨_, .bool !b, e2, ?_, fun w => by rw [Sem.run_bind, run_eqGuard hp w]; exact (run_binOp_eq hpl (h w)).2⟩
      show VR ρ (.bool (notB b)) (.bool !b)
      rw [notB_eq]; exact .bool _
  cases x with
  | i k a =>
    cases hx
    obtain ⟨j, b, rfl, e1⟩ := onInt_ok (k := fun j b => binI o k a j b q) e
    cases hy
    obtain ⟨c, e2, hp, h⟩ := binI_ok (t := t) e1
    refine ⟨c, c.toV, e2, hp ρ, fun w => by rw [Sem.run_bind, run_eqGuard ⟨fun _ _ h => (by cases h.1), fun h => (by cases h)⟩ w]; exact h w⟩
  | st s =>
    cases hx
    obtain ⟨l, rfl, e1⟩ := onStr_ok (k := fun t => sOp o s t q) e
    cases hy
    obtain ⟨c, e2, hp, h⟩ := sOp_ok (t := t) e1
    refine ⟨c, c.toV, e2, hp ρ, fun w => by rw [Sem.run_bind, run_eqGuard ⟨fun _ _ h => (by cases h.1), fun h => (by cases h)⟩ w]; exact h w⟩
  | b a =>
    obtain ⟨e1, hk⟩ := eqTy_ok hcx e
    cases hx
    exact fin hk (.inl ⟨a, rfl, rfl⟩) ⟨fun _ _ h => (by cases h.1), fun h => (by cases h)⟩ trivial e1
  | p h o' =>
    obtain ⟨e1, hk⟩ := eqTy_ok hcx e
    cases hx
    exact fin hk (.inr (.inl ⟨h, o', rfl, rfl⟩)) ⟨fun _ _ h => (by cases h.1), fun h => (by cases h)⟩ trivial e1
  | sl h o' n m =>
    obtain ⟨e1, hk⟩ := eqTy_ok hcx e
    cases hx
    exact fin hk (.inr (.inr (.inl ⟨h, o', n, m, rfl, rfl⟩))) ⟨fun _ _ h => (by cases h.1), fun h => (by cases h)⟩ trivial e1
  | v w =>
    obtain ⟨i, a, hn, e1⟩ := nilKind_ok (v := w) (k := fun i a => eqTy cx t i (bothNil (orB (isLit X) (isLit Y)) i a y (eqR o (.v w) y q))) e
    obtain ⟨e2, hk⟩ := eqTy_ok hcx e1
    have hn' : NilK x' i a := hn.rel hx
    have hpl : plainEq x' := by cases hn' <;> trivial
    have hag : ∀ c d, ¬ (x' = .agg c ∧ y' = .agg d) := fun c d h => by rw [h.1] at hn'; cases hn'
    have hi : (∃ v b, Ce.v w = .v v ∧ NilK v i b) := ⟨w, a, rfl, hn⟩
    rcases ifB_ok e2 with ⟨h1, e3⟩ | ⟨h1, e3⟩
    · rcases onIface_ok e3 with ⟨t', v', rfl, e4⟩ | ⟨rfl, e4⟩
      · exact fin hk (.inr (.inr (.inr hi))) ⟨hag, fun _ h => (by cases hy; cases h)⟩ hpl e4
      · cases e4
    · refine fin hk (.inr (.inr (.inr hi))) ⟨hag, fun h2 _ => ?_⟩ hpl e3
      rw [h2] at hn'
      cases hn'
      rw [andB_eq, andB_eq, orB_eq, notB_eq] at h1
      cases hX : isLit X <;> cases hY : isLit Y <;> simp [hX, hY] at h1 ⊢
end Go.Ev
end
section
/- Ev, soundness, part 10: addresses, parts, variables. Conditions: none. -/
namespace Go.Ev
set_option linter.unusedVariables false
variable {P : Program} {rv : RV} {rh : H}

theorem ptrK_eq (b o : Nat) (k : RV → RT) : ptrK b o k = k (.s (.p b o)) := by simp [ptrK, natK_eq]
theorem RR.place {ρ : Rho} {a o : Nat} {v : Value} (h : RR ρ (.s (.p a o)) v) : ∃ b base ex, ρ a = some (b, base, ex) ∧ v = .pointer (some ⟨b, base + o, none⟩) := by
  cases h with
  | s _ _ e => cases e with
    | p _ _ b base ex he => exact ⟨b, base, ex, he, rfl⟩
  | t _ _ e => cases e
theorem RR.scalar {ρ : Rho} {c : Ce} {v : Value} (h : RR ρ (.s c) v) : CR ρ c v := by
  cases h with
  | s _ _ e => exact e
  | t _ _ e => cases e
theorem RR.aggr {ρ : Rho} {c : Cs} {v : Value} (h : RR ρ (.a c) v) : ∃ vs, v = .agg vs ∧ c.good ∧ CRs ρ c.l vs.toList := by
  cases h with
  | a _ vs g e => exact ⟨vs, rfl, g, e⟩
  | t _ _ e => cases e
theorem CR.int {ρ : Rho} {j : IntKind} {n : Int} {v : Value} (h : CR ρ (.i j n) v) : v = .int j n := by cases h; rfl
theorem CR.str {ρ : Rho} {l : List UInt8} {v : Value} (h : CR ρ (.st l) v) : v = .string ⟨⟨l⟩⟩ := by cases h; rfl
theorem CR.bool {ρ : Rho} {b : Bool} {v : Value} (h : CR ρ (.b b) v) : v = .bool b := by cases h; rfl
theorem CR.sl {ρ : Rho} {a o n c : Nat} {v : Value} (h : CR ρ (.sl a o n c) v) : ∃ b base ex, ρ a = some (b, base, ex) ∧ v = .slice (some ⟨b, base + o, none⟩) n (c + ex) := by
  cases h with | sl _ _ _ _ b base ex he => exact ⟨b, base, ex, he, rfl⟩

theorem fieldAddr_ok {cx : Cx} (hcx : CxOk P cx) {ρ : Rho} {s f : Nat} {x : RV} {v : Value} {k : RV → RT} (hx : RR ρ x v) (e : pFAddr cx s x f k = .ok rv rh) :
    ∃ y u, k y = .ok rv rh ∧ RR ρ y u ∧ ∀ w, (Instr.fieldAt s v f).run P w = .ok u w := by
  obtain ⟨a, o, rfl, e⟩ := onPlace_ok e
  obtain ⟨d, hu, e⟩ := underK_ok hcx e
  obtain ⟨fs, rfl, e⟩ := dStruct_ok e
  obtain ⟨fd, hf, e⟩ := onSome_ok e
  obtain ⟨ti, hi, e⟩ := tyK_ok hcx e
  obtain ⟨hz, e⟩ := ifB_e e
  rw [ptrK_eq] at e
  obtain ⟨b, base, ex, hρ, rfl⟩ := hx.place
  have hz' : ti.size ≠ 0 := fun h => by rw [h] at hz; cases hz
  rw [lget_eq] at hf
  have hf' : fs[f]? = some fd := by simpa using hf
  refine ⟨_, .pointer (some ⟨b, base + (o + fd.offset), none⟩), e, .s _ _ (.p _ _ _ _ _ hρ), fun w => ?_⟩
  unfold Instr.fieldAt
  rw [Sem.run_bind, run_underlying hu w]
  simp only [Result.andThen_ok, hf', Instr.sureAddr, Sem.run_bind, Sem.run_pure, fieldPlace, run_sizeOf hi]
  simp [hz', Addr.add_mid, Nat.add_assoc]

theorem field_ok {cx : Cx} (hcx : CxOk P cx) {ρ : Rho} {s f : Nat} {x : RV} {v : Value} {k : RV → RT} (hx : RR ρ x v) (e : pField cx s x f k = .ok rv rh) :
    ∃ y u, k y = .ok rv rh ∧ RR ρ y u ∧ ∀ w, (Instr.field s v f).run P w = .ok u w := by
  obtain ⟨c, rfl, e⟩ := onA_ok e
  obtain ⟨d, hu, e⟩ := underK_ok hcx e
  obtain ⟨fs, rfl, e⟩ := dStruct_ok e
  obtain ⟨fd, hf, e⟩ := onSome_ok e
  obtain ⟨vs, rfl, hg, hv⟩ := hx.aggr
  obtain ⟨y, u, hy, e, hr⟩ := partK_ok hcx hg hv e
  rw [lget_eq] at hf
  have hf' : fs[f]? = some fd := by simpa using hf
  refine ⟨y, u, e, hy, fun w => ?_⟩
  unfold Instr.field
  rw [Sem.run_bind, run_underlying hu w]
  simp only [Result.andThen_ok, hf', asAgg, Sem.run_bind, Sem.run_pure, hr]

theorem indexAddr_ok {cx : Cx} (hcx : CxOk P cx) {ρ : Rho} {t : Nat} {x i : RV} {v vi : Value} {k : RV → RT} (hx : RR ρ x v) (hi : RR ρ i vi) (e : pIAddr cx t x i k = .ok rv rh) :
    ∃ y u, k y = .ok rv rh ∧ RR ρ y u ∧ ∀ w, (Instr.indexAt t v vi).run P w = .ok u w := by
  obtain ⟨ci, rfl, e⟩ := onS_ok e
  obtain ⟨j, n, rfl, e⟩ := onInt_ok e
  obtain ⟨m, rfl, e⟩ := iabs_ok e
  have := hi.scalar.int
  subst this
  obtain ⟨d, hu, e⟩ := underK_ok hcx e
  rcases dArr_ok e with ⟨len, el, rfl, e⟩ | ⟨_, e⟩
  · obtain ⟨ti, hti, e⟩ := tyK_ok hcx e
    obtain ⟨a, o, rfl, e⟩ := onPlace_ok e
    obtain ⟨hlt, e⟩ := ifB_t e
    rw [ptrK_eq] at e
    rw [Nat.blt_eq] at hlt
    obtain ⟨b, base, ex, hρ, rfl⟩ := hx.place
    refine ⟨_, .pointer (some ⟨b, base + (o + m * ti.size), none⟩), e, .s _ _ (.p _ _ _ _ _ hρ), fun w => ?_⟩
    have h0 : (0 : Int) ≤ (m : Int) ∧ (m : Int) < (len : Int) := ⟨by omega, by omega⟩
    unfold Instr.indexAt
    simp only [asIntOf, Sem.run_bind, Sem.run_pure, Result.andThen_ok, run_underlying hu w, Instr.sureAddr]
    simp [run_sizeOf hti, hlt, Addr.add_mid, Nat.add_assoc]
  · obtain ⟨el, rfl, e⟩ := dSlice_ok e
    obtain ⟨ti, hti, e⟩ := tyK_ok hcx e
    obtain ⟨c, rfl, e⟩ := onS_ok e
    rcases onSl_ok e with ⟨n, m', rfl, e⟩ | ⟨a, o, len, cap, rfl, e⟩
    · cases e
    · obtain ⟨hlt, e⟩ := ifB_t e
      rw [ptrK_eq] at e
      rw [Nat.blt_eq] at hlt
      obtain ⟨b, base, ex, hρ, rfl⟩ := hx.scalar.sl
      refine ⟨_, .pointer (some ⟨b, base + (o + m * ti.size), none⟩), e, .s _ _ (.p _ _ _ _ _ hρ), fun w => ?_⟩
      unfold Instr.indexAt
      simp only [asIntOf, Sem.run_bind, Sem.run_pure, Result.andThen_ok, run_underlying hu w]
      simp [run_sizeOf hti, hlt, Addr.add_mid, Nat.add_assoc]

theorem index_ok {cx : Cx} (hcx : CxOk P cx) {ρ : Rho} {t : Nat} {x i : RV} {v vi : Value} {k : RV → RT} (hx : RR ρ x v) (hi : RR ρ i vi) (e : pIndex cx t x i k = .ok rv rh) :
    ∃ y u, k y = .ok rv rh ∧ RR ρ y u ∧ ∀ w, (Instr.index t v vi).run P w = .ok u w := by
  obtain ⟨ci, rfl, e⟩ := onS_ok e
  obtain ⟨j, n, rfl, e⟩ := onInt_ok e
  obtain ⟨m, rfl, e⟩ := iabs_ok e
  have := hi.scalar.int
  subst this
  obtain ⟨d, hu, e⟩ := underK_ok hcx e
  rcases dArr_ok e with ⟨len, el, rfl, e⟩ | ⟨_, e⟩
  · obtain ⟨ti, hti, e⟩ := tyK_ok hcx e
    obtain ⟨c, rfl, e⟩ := onA_ok e
    obtain ⟨hlt, e⟩ := ifB_t e
    rw [Nat.blt_eq] at hlt
    obtain ⟨vs, rfl, hg, hv⟩ := hx.aggr
    obtain ⟨y, u, hy, e, hr⟩ := partK_ok hcx hg hv e
    refine ⟨y, u, e, hy, fun w => ?_⟩
    unfold Instr.index
    simp only [asIntOf, Sem.run_bind, Sem.run_pure, Result.andThen_ok, run_underlying hu w]
    simp [Sem.run_bind, run_sizeOf hti, hlt, hr]
  · rcases dStr_ok e with ⟨rfl, e⟩ | ⟨_, e⟩
    rotate_left
    · cases e
    obtain ⟨c, rfl, e⟩ := onS_ok e
    obtain ⟨s, rfl, e⟩ := onStr_ok e
    obtain ⟨y, hb, e⟩ := onSome_ok e
    rw [natK_eq] at e
    have := hx.scalar.str
    subst this
    rw [lget_eq] at hb
    have hb' : (⟨⟨s⟩⟩ : ByteArray)[m]? = some y := by
      have hlt : m < s.length := (List.getElem?_eq_some_iff.1 hb).1
      have hv := (List.getElem?_eq_some_iff.1 hb).2
      have hlt' : m < (⟨⟨s⟩⟩ : ByteArray).size := hlt
      rw [getElem?_pos (⟨⟨s⟩⟩ : ByteArray) m hlt']
      exact congrArg some hv
    refine ⟨_, _, e, .s _ _ (VR.int _ _), fun w => ?_⟩
    unfold Instr.index
    simp only [asIntOf, Sem.run_bind, Sem.run_pure, Result.andThen_ok, run_underlying hu w]
    simp [hb']
end Go.Ev
end
section
/- Ev, soundness, part 11: stores and new blocks. Conditions: none. -/
namespace Go.Ev
set_option linter.unusedVariables false
variable {P : Program} {rv : RV} {rh : H}

/-- A value that fills one cell. -/
theorem CR.one {ρ : Rho} {c : Ce} {v : Value} (h : CR ρ c v) : v.oneCell' = true := by
  cases c <;> first
    | (cases h; rfl)
    | (rename_i w; cases w <;> cases h <;> rfl)

/-- The cells of a value of the evaluator's. -/
theorem cells_rel {ρ : Rho} {x : RV} {v : Value} {c : Cs} (hx : RR ρ x v) (hc : x = .a c ∨ ∃ u, x = .s u ∧ c = .rep 1 u) : c.good ∧ CRs ρ c.l v.cells.toList := by
  rcases hc with rfl | ⟨u, rfl, rfl⟩
  · obtain ⟨vs, rfl, hg, hv⟩ := hx.aggr; exact ⟨hg, hv⟩
  · refine ⟨trivial, ?_⟩
    have h := hx.scalar
    have h1 := h.one
    have hcell : v.cells = #[v] := by cases v <;> first | rfl | cases h1
    rw [hcell]
    exact .cons _ _ _ _ h .nil
theorem CRs.one {ρ : Rho} : ∀ {l : List Ce} {vs : List Value}, CRs ρ l vs → ∀ v ∈ vs, v.oneCell' = true
  | [], _, h, v, hv => by cases h; cases hv
  | c :: l, _, h, v, hv => by
    cases h with
    | cons _ v' _ vs' e e' =>
      cases hv with
      | head => exact CR.one (c := c) e
      | tail _ hm => exact CRs.one (l := l) e' v hm

/-- A variable is stored. -/
theorem store_ok {cx : Cx} (hcx : CxOk P cx) {ρ : Rho} {h : H} {w : World} {t : Nat} {a x : RV} {va vx : Value} {k : H → RT} (r : HR P ρ h w) (ha : RR ρ a va) (hx : RR ρ x vx) (e : pStore cx t a x h k = .ok rv rh) :
    ∃ h' w', k h' = .ok rv rh ∧ (Instr.storeAt t va vx).run P w = .ok () w' ∧ HR P ρ h' w' ∧ St ρ h w ρ h' w' := by
  obtain ⟨b, o, hab, e0⟩ := onPlace_ok e
  subst hab
  clear e
  obtain ⟨c, hc, e⟩ := cellsK_ok e0
  obtain ⟨i, hi, e⟩ := tyK_ok hcx e
  obtain ⟨hsz, e⟩ := ifB_t e
  obtain ⟨blk, base, ex, hρ, rfl⟩ := ha.place
  obtain ⟨hg, hv⟩ := cells_rel hx hc
  have hs := Nat.eq_of_beq_eq_true hsz
  rw [c.size_eq hg] at hs
  have hlen : c.l.length = vx.cells.size := by simpa [CRs] using VRs.length hv
  obtain ⟨ob, ho, e1⟩ := getK_ok e
  obtain ⟨c0, el, exact_, fz, rfl, e1⟩ := oCells_ok e1
  obtain ⟨hfz, e1⟩ := ifB_t e1
  obtain ⟨hfit, e1⟩ := ifB_t e1
  obtain ⟨b', base', ex', q1, q2⟩ := r.obj _ _ ho
  rw [c.size_eq hg, c0.size_eq q2.1, Nat.ble_eq] at hfit
  rw [Nat.ble_eq] at hfz
  obtain ⟨h', hk, hth, hr, hst⟩ := write_sound (off := o) r ho hρ hg hv hfit hfz
  rw [hk] at e
  refine ⟨h', _, e, ?_, hr, hst⟩
  have hall : vx.cells.all (·.oneCell') = true := Array.all_eq_true_iff_forall_mem.2 fun v hm => CRs.one hv v (by simpa using hm)
  have h2 := run_storeCells_cells (P := P) blk (base + o) vx.cells.toList 0 w (fun j hj => by simpa using (hth j (by simpa using hj)).1) (fun j hj => by simpa using (hth j (by simpa using hj)).2)
    (fun v hv => (Array.all_eq_true_iff_forall_mem.1 hall) v (by simpa using hv))
  simp only [Nat.add_zero] at h2
  have hsize : vx.cells.size = i.size := by omega
  simp only [Instr.storeAt, Instr.sureAddr, Sem.run_bind, Sem.run_pure, Result.andThen_ok, storeVar, run_sizeOf hi]
  simpa [hsize] using h2
end Go.Ev
end
section
/- Ev, soundness, part 12: zero values; variables that are made. Conditions: none. -/
namespace Go.Ev
set_option linter.unusedVariables false
variable {P : Program} {rv : RV} {rh : H}

/-- Cells without handles. -/
def Free (l : List Ce) : Prop := ∀ c ∈ l, ∀ ρ, CR ρ c c.toV
/-- Whatever follows: one rope without handles, or an error. -/
def ZGives (f : (Cs → RT) → RT) : Prop := (∃ c : Cs, (∀ k, f k = k c) ∧ c.good ∧ Free c.l) ∨ ∃ w, ∀ k, f k = .err w

theorem ZGives.one (x : Ce) (h : ∀ ρ, CR ρ x x.toV) : ZGives fun k => k (.rep 1 x) :=
  .inl ⟨.rep 1 x, fun _ => rfl, trivial, fun c hc => by simp [Cs.l] at hc; subst hc; exact h⟩
theorem ZGives.err (w : String) : ZGives fun _ => .err w := .inr ⟨w, fun _ => rfl⟩

theorem zeroFields_gives {cx : Cx} {ih : Nat → (Cs → RT) → RT} (hih : ∀ t, ZGives (ih t)) : ∀ (fs : List Field) (acc : Cs), acc.good → Free acc.l →
    ZGives fun k => (List.rec (motive := fun _ => Cs → RT) k (fun f _ go c => ih f.type fun x => c.mkK x go) fs : Cs → RT) acc := by
  intro fs
  induction fs with
  | nil => intro acc hg hf; exact .inl ⟨acc, fun _ => rfl, hg, hf⟩
  | cons f fs ihf =>
    intro acc hg hf
    rcases hih f.type with ⟨x, hk, hx, hxf⟩ | ⟨w, hk⟩
    · obtain ⟨d, hk2, hd, hl⟩ := Cs.mkK_gives hg hx
      have hdf : Free d.l := fun c hc => by
        rw [hl] at hc
        rcases List.mem_append.1 hc with h | h
        · exact hf c h
        · exact hxf c h
      have hunf : ∀ k, (List.rec (motive := fun _ => Cs → RT) k (fun f _ go c => ih f.type fun x => c.mkK x go) (f :: fs) : Cs → RT) acc = (List.rec (motive := fun _ => Cs → RT) k (fun f _ go c => ih f.type fun x => c.mkK x go) fs : Cs → RT) d := fun k => by
        show ih f.type (fun x => acc.mkK x (List.rec (motive := fun _ => Cs → RT) k (fun f _ go c => ih f.type fun x => c.mkK x go) fs)) = _
        rw [hk, hk2]
      rcases ihf d hd hdf with ⟨c, h1, h2, h3⟩ | ⟨w, h1⟩
      · exact .inl ⟨c, fun k => (hunf k).trans (h1 k), h2, h3⟩
      · exact .inr ⟨w, fun k => (hunf k).trans (h1 k)⟩
    · exact .inr ⟨w, fun k => by
        show ih f.type (fun x => acc.mkK x (List.rec (motive := fun _ => Cs → RT) k (fun f _ go c => ih f.type fun x => c.mkK x go) fs)) = _
        rw [hk]⟩

theorem zeroK_gives (cx : Cx) : ∀ (fuel t : Nat), ZGives (zeroK cx fuel t) := by
  intro fuel
  induction fuel with
  | zero => intro t; exact .err _
  | succ fuel ih =>
    intro t
    have body : ∀ d : TypeDesc, ZGives fun k => TypeDesc.rec (motive := fun _ => RT) eT (k (.rep 1 (.b false))) (fun j => k (.rep 1 (.i j (.ofNat 0)))) (fun _ => eT) (fun _ => eT) (k (.rep 1 (.st []))) (k (.rep 1 (.v (.pointer none)))) (fun _ => k (.rep 1 (.v (.pointer none)))) (fun _ => k (.rep 1 (.v (.slice none 0 0))))
        (fun n e => zeroK cx fuel e fun c => Cs.timesK n c k) (fun _ _ => k (.rep 1 (.v (.map none)))) (fun _ _ => k (.rep 1 (.v (.chan none))))
        (fun fs => List.rec (motive := fun _ => Cs → RT) k (fun f _ go c => zeroK cx fuel f.type fun x => c.mkK x go) fs.toList .nil)
        (fun _ _ _ => k (.rep 1 (.v .nilFunc))) (fun _ => k (.rep 1 (.v .nilIface))) (fun _ => eT) (fun _ _ => eT) d := by
      intro d
      cases d with
      | bool => exact .one _ fun _ => VR.bool _
      | int j => exact .one _ fun _ => VR.int _ _
      | string => exact .one _ fun _ => VR.str _
      | unsafePointer => exact .one _ fun _ => VR.np
      | pointer e => exact .one _ fun _ => VR.np
      | slice e => exact .one _ fun _ => VR.ns _ _
      | map a b => exact .one _ fun _ => VR.nm
      | chan a b => exact .one _ fun _ => VR.nc
      | func a b c => exact .one _ fun _ => VR.nf
      | interface ms => exact .one _ fun _ => VR.ni
      | array n e =>
        rcases ih e with ⟨c, hk, hg, hf⟩ | ⟨w, hk⟩
        · obtain ⟨d, hk2, hd, hl⟩ := Cs.timesK_gives n hg
          refine .inl ⟨d, fun k => ?_, hd, fun x hx => ?_⟩
          · show zeroK cx fuel e (fun c => Cs.timesK n c k) = _
            rw [hk, hk2]
          · rw [hl] at hx
            simp only [List.mem_flatten, List.mem_replicate] at hx
            obtain ⟨l, ⟨_, rfl⟩, hx⟩ := hx
            exact hf x hx
        · exact .inr ⟨w, fun k => by show zeroK cx fuel e (fun c => Cs.timesK n c k) = _; rw [hk]⟩
      | struct fs => exact zeroFields_gives (cx := cx) ih fs.toList .nil trivial (fun c hc => by cases hc)
      | _ => exact .err _
    cases cx with
    | mk fn ty ls =>
      cases h1 : ty.get t with
      | none => exact .inr ⟨_, fun k => by show onSome (ty.get t) "no such type" _ = _; rw [h1]; rfl⟩
      | some i =>
        have hunf : ∀ k, zeroK (.mk fn ty ls) (fuel + 1) t k = dNamed i.desc (fun d => TypeDesc.rec (motive := fun _ => RT) eT (k (.rep 1 (.b false))) (fun j => k (.rep 1 (.i j (.ofNat 0)))) (fun _ => eT) (fun _ => eT) (k (.rep 1 (.st []))) (k (.rep 1 (.v (.pointer none)))) (fun _ => k (.rep 1 (.v (.pointer none)))) (fun _ => k (.rep 1 (.v (.slice none 0 0))))
            (fun n e => zeroK (.mk fn ty ls) fuel e fun c => Cs.timesK n c k) (fun _ _ => k (.rep 1 (.v (.map none)))) (fun _ _ => k (.rep 1 (.v (.chan none))))
            (fun fs => List.rec (motive := fun _ => Cs → RT) k (fun f _ go c => zeroK (.mk fn ty ls) fuel f.type fun x => c.mkK x go) fs.toList .nil)
            (fun _ _ _ => k (.rep 1 (.v .nilFunc))) (fun _ => k (.rep 1 (.v .nilIface))) (fun _ => eT) (fun _ _ => eT) d) (fun u => tyK (.mk fn ty ls) u fun j => TypeDesc.rec (motive := fun _ => RT) eT (k (.rep 1 (.b false))) (fun j => k (.rep 1 (.i j (.ofNat 0)))) (fun _ => eT) (fun _ => eT) (k (.rep 1 (.st []))) (k (.rep 1 (.v (.pointer none)))) (fun _ => k (.rep 1 (.v (.pointer none)))) (fun _ => k (.rep 1 (.v (.slice none 0 0))))
            (fun n e => zeroK (.mk fn ty ls) fuel e fun c => Cs.timesK n c k) (fun _ _ => k (.rep 1 (.v (.map none)))) (fun _ _ => k (.rep 1 (.v (.chan none))))
            (fun fs => List.rec (motive := fun _ => Cs → RT) k (fun f _ go c => zeroK (.mk fn ty ls) fuel f.type fun x => c.mkK x go) fs.toList .nil)
            (fun _ _ _ => k (.rep 1 (.v .nilFunc))) (fun _ => k (.rep 1 (.v .nilIface))) (fun _ => eT) (fun _ _ => eT) j.desc) := fun k => by
          show onSome (ty.get t) "no such type" _ = _
          rw [h1]; rfl
        cases hd : i.desc with
        | named nm u =>
          cases h2 : ty.get u with
          | none => exact .inr ⟨_, fun k => by rw [hunf, hd]; show onSome (ty.get u) "no such type" _ = _; rw [h2]; rfl⟩
          | some j =>
            rcases body j.desc with ⟨c, hk, hg⟩ | ⟨w, hk⟩
            · exact .inl ⟨c, fun k => by rw [hunf, hd]; show onSome (ty.get u) "no such type" _ = _; rw [h2]; exact hk k, hg⟩
            · exact .inr ⟨w, fun k => by rw [hunf, hd]; show onSome (ty.get u) "no such type" _ = _; rw [h2]; exact hk k⟩
        | _ =>
          rcases body i.desc with ⟨c, hk, hg⟩ | ⟨w, hk⟩
          · exact .inl ⟨c, fun k => by rw [hunf]; have := hk k; rw [hd] at this ⊢; exact this, hg⟩
          · exact .inr ⟨w, fun k => by rw [hunf]; have := hk k; rw [hd] at this ⊢; exact this⟩
end Go.Ev
end
section
/- Ev, soundness, part 13: variables and rows that are made. Conditions: none. -/
namespace Go.Ev
set_option linter.unusedVariables false
variable {P : Program} {rv : RV} {rh : H}

theorem Free.rel {l : List Ce} (h : Free l) (ρ : Rho) : CRs ρ l (l.map Ce.toV) := by
  induction l with
  | nil => exact .nil
  | cons c l ih => exact .cons _ _ _ _ (h c (.head _) ρ) (ih fun x hx => h x (.tail _ hx))

/-- A type's zero value. -/
theorem zeroK_ok {cx : Cx} (hcx : CxOk P cx) {t : Nat} {k : Cs → RT} (e : zeroK cx 64 t k = .ok rv rh) :
    ∃ c i z d, k c = .ok rv rh ∧ c.good ∧ (∀ ρ, CRs ρ c.l z.cells.toList) ∧ P.info? t = some i ∧ i.zero = some z ∧ c.l.length = i.size ∧ P.underlying t = some d ∧ (d.isRow = true ↔ ∃ cs, z = .agg cs) := by
  rcases zeroK_gives cx 64 t with ⟨c, hk, hg, hf⟩ | ⟨w, hk⟩
  · obtain ⟨i, z, d, h1, h2, h3, h4, h5, h6⟩ := hcx.zero t c hk
    rw [hk] at e
    exact ⟨c, i, z, d, e, hg, fun ρ => by rw [h3]; exact hf.rel ρ, h1, h2, h4, h5, h6⟩
  · rw [hk] at e; cases e
theorem run_zeroValue {t : TypeId} {i : TypeInfo} {z : Value} (hi : P.info? t = some i) (hz : i.zero = some z) (w : World) : (zeroValue t).run P w = .ok z w := by simp [zeroValue, typeInfo, hi, hz]

/-- The world with one block more. -/
abbrev pushed (w : World) (ob : Obj) : World := { w with heap := w.heap.push ob }
theorem run_newRow (e : TypeId) (cs : Array Value) (w : World) : (newRow e cs).run P w = .ok ⟨w.heap.size, 0, none⟩ (pushed w (.cells cs e)) := by
  simp [newRow, newObj, Sem.run]

/-- A block of cells is made; all its cells are known, or some beyond them are there. -/
theorem newCells_ok {ρ : Rho} {h : H} {w : World} {c : Cs} {arr : Array Value} {e : TypeId} {exact_ : Bool} {ex : Nat} (r : HR P ρ h w) (hg : c.good) (hv : ∀ (i : Nat) (v : Ce), c.l[i]? = some v → ∃ v', arr[i]? = some v' ∧ CR ρ v v')
    (hex : exact_ = true → ex = 0 ∧ arr.size = c.l.length) (hsz : c.l.length + ex * P.cellsOf e ≤ arr.size) :
    ∃ h' ρ', (∀ k, h.newK (.cells c e exact_ 0) k = k h.next h') ∧ ρ' h.next = some (w.heap.size, 0, ex) ∧ HR P ρ' h' (pushed w (.cells arr e)) ∧ St ρ h w ρ' h' (pushed w (.cells arr e)) := by
  obtain ⟨h', hk, hn, ha⟩ := newK_gives h (.cells c e exact_ 0)
  have hsub := Rho.put_sub r.dom (w.heap.size, 0, ex)
  have hor : OR P (ρ.put h.next (w.heap.size, 0, ex)) (w.heap.push (.cells arr e)) (.cells c e exact_ 0) w.heap.size 0 ex := by
    refine ⟨hg, arr, 0, 0, by simp, fun i v hi => ?_, fun hx => ⟨(hex hx).1, rfl, (hex hx).2⟩, by omega, Fz.new _ _ _⟩
    obtain ⟨v', h1, h2⟩ := hv i v hi
    exact ⟨v', by simpa using h1, VR.mono hsub h2⟩
  obtain ⟨h1, h2⟩ := new_sound (ob := .cells arr e) r hn ha hor (fun j h => by cases h)
  exact ⟨h', _, hk, ρ.put_same _ _, h1, h2⟩
theorem CRs.at {ρ : Rho} {l : List Ce} {vs : Array Value} (h : CRs ρ l vs.toList) (i : Nat) (v : Ce) (hi : l[i]? = some v) : ∃ v', vs[i]? = some v' ∧ CR ρ v v' := by
  obtain ⟨v', h1, h2⟩ := VRs.get h i v.toV (by simp [hi])
  exact ⟨v', by simpa using h1, h2⟩

/-- What an operation that may make blocks comes to. -/
def Made (P : Program) (rv : RV) (rh : H) (ρ : Rho) (h : H) (w : World) (k : KV) (s : Sem Value) : Prop :=
  ∃ x v h' ρ' w', k x h' = .ok rv rh ∧ s.run P w = .ok v w' ∧ HR P ρ' h' w' ∧ St ρ h w ρ' h' w' ∧ RR ρ' x v

theorem alloc_ok {cx : Cx} (hcx : CxOk P cx) {ρ : Rho} {h : H} {w : World} {t : Nat} {k : KV} (r : HR P ρ h w) (e : pAlloc cx t h k = .ok rv rh) : Made P rv rh ρ h w k (Instr.alloc t true (.tuple #[])) := by
  obtain ⟨c, i, z, d, e1, hg, hv, hi, hz, hlen, hu, hrow⟩ := zeroK_ok hcx e
  have hl : c.l.length = z.cells.size := by simpa [CRs] using VRs.length (hv ρ)
  obtain ⟨h', ρ', hk, hρ, hr, hst⟩ := newCells_ok (arr := z.cells) (e := t) (exact_ := true) (ex := 0) r hg (fun i v hi => CRs.at (hv ρ) i v hi) (fun _ => ⟨rfl, hl.symm⟩) (by omega)
  rw [hk] at e1
  refine ⟨_, .pointer (some ⟨w.heap.size, 0, none⟩), h', ρ', _, e1, ?_, hr, hst, .s _ _ (VR.p _ _ _ _ _ hρ)⟩
  simp only [Instr.alloc, newVar, Sem.run_bind, run_zeroValue hi hz, Result.andThen_ok, run_newRow, Sem.run_pure]

theorem box_ok {ρ : Rho} {h : H} {w : World} {t : Nat} {x : RV} {v : Value} {k : KV} (r : HR P ρ h w) (hx : RR ρ x v) (e : pBox t x h k = .ok rv rh) : Made P rv rh ρ h w k (Instr.box t v) := by
  obtain ⟨c, hc, e1⟩ := cellsK_ok e
  obtain ⟨hg, hv⟩ := cells_rel hx hc
  have hl : c.l.length = v.cells.size := by simpa [CRs] using VRs.length hv
  obtain ⟨h', ρ', hk, hρ, hr, hst⟩ := newCells_ok (arr := v.cells) (e := t) (exact_ := true) (ex := 0) r hg (fun i v hi => CRs.at hv i v hi) (fun _ => ⟨rfl, hl.symm⟩) (by omega)
  rw [hk] at e1
  refine ⟨_, .pointer (some ⟨w.heap.size, 0, none⟩), h', ρ', _, e1, ?_, hr, hst, .s _ _ (VR.p _ _ _ _ _ hρ)⟩
  simp only [Instr.box, newVar, Sem.run_bind, Result.andThen_ok, run_newRow, Sem.run_pure]
end Go.Ev
end
section
/- Ev, soundness, part 14: aggregates that are built. Conditions: none. -/
namespace Go.Ev
set_option linter.unusedVariables false
variable {P : Program} {rv : RV} {rh : H}

theorem foldSet_get (off : Nat) : ∀ (l : List Value) (n : Nat) (arr : Array Value), off + n + l.length ≤ arr.size →
    ((l.zipIdx n).foldl (fun cs (x : Value × Nat) => cs.setIfInBounds (off + x.2) x.1) arr).size = arr.size ∧
    ∀ i, ((l.zipIdx n).foldl (fun cs (x : Value × Nat) => cs.setIfInBounds (off + x.2) x.1) arr)[i]? = if off + n ≤ i ∧ i < off + n + l.length then l[i - (off + n)]? else arr[i]? := by
  intro l
  induction l with
  | nil => intro n arr h; exact ⟨rfl, fun i => by rw [if_neg (by simp)]; rfl⟩
  | cons v l ih =>
    intro n arr h
    simp only [List.length_cons] at h
    simp only [List.zipIdx_cons, List.foldl_cons, List.length_cons]
    obtain ⟨h1, h2⟩ := ih (n + 1) (arr.setIfInBounds (off + n) v) (by simp; omega)
    refine ⟨by rw [h1]; simp, fun i => ?_⟩
    rw [h2]
    by_cases hi : i = off + n
    · subst hi
      rw [if_neg (by omega), if_pos (by omega)]
      simp [Array.getElem?_setIfInBounds]; omega
    · by_cases hc : off + (n + 1) ≤ i ∧ i < off + (n + 1) + l.length
      · rw [if_pos hc, if_pos (by omega), show i - (off + n) = (i - (off + (n + 1))) + 1 by omega]; simp
      · rw [if_neg hc, if_neg (by omega), Array.getElem?_setIfInBounds_ne (by omega)]

/-- Parts stand to parts. -/
inductive PR (ρ : Rho) : List (Nat × RV) → List (Nat × Value) → Prop
  | nil : PR ρ [] []
  | cons (i : Nat) (x : RV) (v : Value) (l : List (Nat × RV)) (m : List (Nat × Value)) (e : RR ρ x v) (e' : PR ρ l m) : PR ρ ((i, x) :: l) ((i, v) :: m)

theorem fillK_ok {ρ : Rho} {place : Nat → (Nat → Nat → RT) → RT} {place' : Nat → Option (Nat × Nat)} (hp : ∀ i k, place i k = .ok rv rh → ∃ off size, place' i = some (off, size) ∧ k off size = .ok rv rh) :
    ∀ {l : List (Nat × RV)} {m : List (Nat × Value)}, PR ρ l m → ∀ {c : Cs} {arr : Array Value} {k : Cs → RT}, c.good → CRs ρ c.l arr.toList → fillK place l c k = .ok rv rh →
      ∃ c' arr', k c' = .ok rv rh ∧ c'.good ∧ CRs ρ c'.l arr'.toList ∧ Instr.fill place' arr m = some arr' ∧ c'.l.length = c.l.length := by
  intro l m h
  induction h with
  | nil => intro c arr k hg hv e; exact ⟨c, arr, e, hg, hv, rfl, rfl⟩
  | cons i x v l m hx _ ih =>
    intro c arr k hg hv e
    obtain ⟨off, size, hpl, e1⟩ := hp i _ e
    obtain ⟨cx, hcx, e2⟩ := cellsK_ok e1
    obtain ⟨htest, e3⟩ := ifB_t e2
    obtain ⟨gx, vx⟩ := cells_rel hx hcx
    rw [andB_eq, Bool.and_eq_true, cx.size_eq gx, c.size_eq hg, Nat.ble_eq] at htest
    have hsz := Nat.eq_of_beq_eq_true htest.1
    have hlx : cx.l.length = v.cells.size := by simpa [CRs] using VRs.length vx
    have hla : c.l.length = arr.size := by simpa [CRs] using VRs.length hv
    obtain ⟨c1, hk, g1, l1⟩ := Cs.spliceK_gives hg off gx (by omega)
    have e4 : fillK place l c1 k = .ok rv rh := by
      have : c.spliceK off cx (fun c => fillK place l c k) = .ok rv rh := e3
      rw [hk] at this; exact this
    obtain ⟨s1, s2⟩ := foldSet_get off v.cells.toList 0 arr (by simp; omega)
    have hfold : (v.cells.zipIdx.foldl (fun cs (x : Value × Nat) => cs.setIfInBounds (off + x.2) x.1) arr) = ((v.cells.toList.zipIdx 0).foldl (fun cs (x : Value × Nat) => cs.setIfInBounds (off + x.2) x.1) arr) := by
      rw [← Array.foldl_toList, Array.toList_zipIdx]
    have hv1 : CRs ρ c1.l (v.cells.zipIdx.foldl (fun cs (x : Value × Nat) => cs.setIfInBounds (off + x.2) x.1) arr).toList := by
      rw [hfold, l1]
      refine VRs.of_get ?_ fun j a b h1 h2 => ?_
      · rw [List.length_map, lay_length (by omega)]
        exact hla.trans s1.symm
      · rw [Array.getElem?_toList, s2] at h2
        simp only [List.getElem?_map] at h1
        rw [lay_get (by omega)] at h1
        simp only [Nat.add_zero, Array.length_toList] at h2
        by_cases hc : off ≤ j ∧ j < off + cx.l.length
        · rw [if_pos hc] at h1
          rw [if_pos (by omega)] at h2
          obtain ⟨z, hz, rfl⟩ := Option.map_eq_some_iff.1 h1
          obtain ⟨v', q1, q2⟩ := VRs.get vx (j - off) z.toV (by simp [hz])
          rw [q1] at h2; cases h2; exact q2
        · rw [if_neg hc] at h1
          rw [if_neg (by omega)] at h2
          obtain ⟨z, hz, rfl⟩ := Option.map_eq_some_iff.1 h1
          obtain ⟨v', q1, q2⟩ := VRs.get hv j z.toV (by simp [hz])
          have : arr[j]? = some v' := by simpa using q1
          rw [this] at h2; cases h2; exact q2
    obtain ⟨c2, arr2, f1, f2, f3, f4, f5⟩ := ih g1 hv1 e4
    refine ⟨c2, arr2, f1, f2, f3, ?_, by rw [f5, l1, lay_length (by omega)]⟩
    show (match place' i with | none => none | some (off, size) => if v.cells.size ≠ size || off + v.cells.size > arr.size then none else Instr.fill place' (v.cells.zipIdx.foldl (fun cs (c, j) => cs.setIfInBounds (off + j) c) arr) m) = some arr2
    rw [hpl]
    have ht : (decide (v.cells.size ≠ size) || decide (off + v.cells.size > arr.size)) = false := by simp; omega
    simp only []
    rw [if_neg (by rw [ht]; simp)]
    exact f4
end Go.Ev
end
section
/- Ev, soundness, part 15: structs, arrays and rows that are built. Conditions: none. -/
namespace Go.Ev
set_option linter.unusedVariables false
variable {P : Program} {rv : RV} {rh : H}

theorem mapM_places {fs : List Field} (h : ∀ f ∈ fs, ∃ i, P.info? f.type = some i) :
    ∃ places : List (Nat × Nat), fs.mapM (fun f => (P.info? f.type).map fun i => (f.offset, i.size)) = some places ∧ ∀ (n : Nat) (f : Field) (i : TypeInfo), fs[n]? = some f → P.info? f.type = some i → places[n]? = some (f.offset, i.size) := by
  induction fs with
  | nil => exact ⟨[], rfl, fun n f i h => by simp at h⟩
  | cons f fs ih =>
    obtain ⟨places, h1, h2⟩ := ih fun g hg => h g (.tail _ hg)
    obtain ⟨i, hi⟩ := h f (.head _)
    refine ⟨(f.offset, i.size) :: places, by simp [List.mapM_cons, hi, h1], fun n g j hn hj => ?_⟩
    cases n with
    | zero => simp at hn; subst hn; rw [hi] at hj; cases hj; rfl
    | succ n => simpa using h2 n g j (by simpa using hn) hj

/-- Every field's type is a type. -/
def FieldsOk (P : Program) : Prop := ∀ (t : Nat) (i : TypeInfo) (fs : Array Field), P.types[t]? = some i → i.desc = .struct fs → ∀ f ∈ fs.toList, f.type < P.types.size
theorem FieldsOk.at {cx : Cx} (hcx : CxOk P cx) (hfs : FieldsOk P) {u : Nat} {i : TypeInfo} (hu : cx.tyAt u = some i) {fs : Array Field} (hd : i.desc = .struct fs) : ∀ f ∈ fs.toList, ∃ i, P.info? f.type = some i := fun f hf => by
  have h1 := hcx.ty u i hu
  unfold Tables.info? at h1
  rw [if_pos (hcx.small u i hu)] at h1
  have h2 := hfs u i fs h1 hd f hf
  exact ⟨P.types[f.type], by unfold Tables.info?; rw [if_pos h2]; simp [h2]⟩

theorem build_ok {cx : Cx} (hcx : CxOk P cx) (hfs : FieldsOk P) {ρ : Rho} {t : Nat} {l : List (Nat × RV)} {m : List (Nat × Value)} {k : RV → RT} (hl : PR ρ l m) (e : pBuild cx t l k = .ok rv rh) :
    ∃ x v, k x = .ok rv rh ∧ RR ρ x v ∧ ∀ w, (Instr.build t m.toArray).run P w = .ok v w := by
  obtain ⟨c, i, z, d, e1, hg, hv, hi, hz, hlen, hu, hrow⟩ := zeroK_ok hcx e
  obtain ⟨u, iu, hat, hu', e2⟩ := underK_at hcx e1
  rw [hu] at hu'
  have hd : d = iu.desc := Option.some.inj hu'
  rw [← hd] at e2
  rcases dArr_ok e2 with ⟨n, el, rfl, e3⟩ | ⟨_, e3⟩
  · obtain ⟨ti, hti, e4⟩ := tyK_ok hcx e3
    obtain ⟨c', arr', f1, f2, f3, f4, _⟩ := fillK_ok (place' := fun i => some (i * ti.size, ti.size)) (fun i k h => ⟨_, _, rfl, h⟩) hl hg (hv ρ) e4
    refine ⟨_, _, f1, .a c' arr' f2 f3, fun w => run_build w t _ _ ?_⟩
    simp [Program.built, hi, hu, hz, hti, f4]
  · obtain ⟨fs, rfl, e4⟩ := dStruct_ok e3
    obtain ⟨places, p1, p2⟩ := mapM_places (hfs.at hcx hat hd.symm)
    have hplace : ∀ i k, fieldP cx fs.toList i k = .ok rv rh → ∃ off size, places.toArray[i]? = some (off, size) ∧ k off size = .ok rv rh := fun n k h => by
      obtain ⟨f, h1, h2⟩ := onSome_ok h
      obtain ⟨j, h3, h4⟩ := tyK_ok hcx h2
      rw [lget_eq] at h1
      exact ⟨_, _, by simpa using p2 n f j h1 h3, h4⟩
    obtain ⟨c', arr', f1, f2, f3, f4, _⟩ := fillK_ok (place' := fun i => places.toArray[i]?) hplace hl hg (hv ρ) e4
    refine ⟨_, _, f1, .a c' arr' f2 f3, fun w => run_build w t _ _ ?_⟩
    simp [Program.built, hi, hu, hz, p1]
    simpa using f4
end Go.Ev
end
section
/- Ev, soundness, part 16: rows that are made. Conditions: none. -/
namespace Go.Ev
set_option linter.unusedVariables false
variable {P : Program} {rv : RV} {rh : H}

theorem flatten_rep_get {α : Type} (l : List α) (n : Nat) : ∀ i, i < n * l.length → (List.replicate n l).flatten[i]? = l[i % l.length]? := by
  induction n with
  | zero => intro i h; simp at h
  | succ n ih =>
    intro i h
    rw [List.replicate_succ, List.flatten_cons]
    by_cases hi : i < l.length
    · rw [List.getElem?_append_left hi, Nat.mod_eq_of_lt hi]
    · rw [List.getElem?_append_right (by omega), ih (i - l.length) (by rw [Nat.add_mul, Nat.one_mul] at h; omega)]
      have hm := Nat.mod_eq_sub_mod (a := i) (b := l.length) (by omega)
      rw [hm]

/-- So many zero values, one behind the other. -/
theorem rows_rel {ρ : Rho} {c : Cs} {z : Array Value} {n : Nat} {d : Cs} (hv : CRs ρ c.l z.toList) (hd : d.l = (List.replicate n c.l).flatten) :
    CRs ρ d.l ((Array.range (n * z.size)).map (z[· % z.size]!)).toList := by
  have hlen : c.l.length = z.size := by simpa [CRs] using VRs.length hv
  have hdl : d.l.length = n * z.size := by rw [hd]; simp [hlen]
  refine VRs.of_get ?_ fun i a b h1 h2 => ?_
  · simp [hdl]
  · have hi : i < n * z.size := by
      have := (List.getElem?_eq_some_iff.1 h1).1
      simpa [hdl] using this
    have hz : 0 < z.size := by
      rcases Nat.eq_zero_or_pos z.size with h0 | h0
      · rw [h0] at hi; simp at hi
      · exact h0
    have hm : i % z.size < z.size := Nat.mod_lt _ hz
    rw [List.getElem?_map, hd, flatten_rep_get _ _ _ (by rw [hlen]; exact hi), hlen] at h1
    obtain ⟨x, hx, rfl⟩ := Option.map_eq_some_iff.1 h1
    obtain ⟨v', q1, q2⟩ := VRs.get hv (i % z.size) x.toV (by simp [hx])
    have q3 : z[i % z.size]? = some v' := by simpa using q1
    have q4 : z[i % z.size]! = v' := by simp [getElem!_def, q3]
    have : b = v' := by
      have h3 : ((Array.range (n * z.size)).map (z[· % z.size]!)).toList[i]? = some (z[i % z.size]!) := by simp [hi]
      rw [h3, q4] at h2; exact (Option.some.inj h2).symm
    rw [this]; exact q2

theorem buildSlice_ok {cx : Cx} (hcx : CxOk P cx) {ρ : Rho} {h : H} {w : World} {t n : Nat} {l : List (Nat × RV)} {m : List (Nat × Value)} {k : KV} (r : HR P ρ h w) (hl : PR ρ l m) (e : pBuildSlice cx t n l h k = .ok rv rh) :
    Made P rv rh ρ h w k (Instr.buildSlice t n m.toArray) := by
  obtain ⟨d0, hu, e1⟩ := underK_ok hcx e
  obtain ⟨el, rfl, e2⟩ := dSlice_ok e1
  obtain ⟨ti, hti, e3⟩ := tyK_ok hcx e2
  obtain ⟨hmax, e4⟩ := ifB_t e3
  rw [Nat.ble_eq] at hmax
  obtain ⟨c, i, z, d, e5, hg, hv, hi, hz, hlen, hu', hrow⟩ := zeroK_ok hcx e4
  rw [hti] at hi; cases hi
  obtain ⟨cz, hk, gz, lz⟩ := Cs.timesK_gives n hg
  rw [hk] at e5
  have hzs : c.l.length = z.cells.size := by simpa [CRs] using VRs.length (hv ρ)
  have hrel := rows_rel (n := n) (d := cz) (hv ρ) lz
  obtain ⟨c', arr', f1, f2, f3, f4, f5⟩ := fillK_ok (place' := fun i => some (i * ti.size, ti.size)) (fun i k h => ⟨_, _, rfl, h⟩) hl gz hrel e5
  have hl' : c'.l.length = arr'.size := by simpa [CRs] using VRs.length f3
  obtain ⟨h', ρ', hk2, hρ, hr, hst⟩ := newCells_ok (arr := arr') (e := el) (exact_ := true) (ex := 0) r f2 (fun i v hi => CRs.at f3 i v hi) (fun _ => ⟨rfl, by have := VRs.length f3; simp at this; omega⟩) (by omega)
  rw [hk2] at f1
  refine ⟨_, .slice (some ⟨w.heap.size, 0, none⟩) n n, h', ρ', _, f1, ?_, hr, hst, .s _ _ (by have := VR.sl (ρ := ρ') h.next 0 n n w.heap.size 0 0 hρ; exact this)⟩
  have hmax' : ¬ (n * ti.size > 2 ^ 24) := by omega
  unfold Instr.buildSlice
  simp only [Sem.run_bind, run_underlying hu w, Result.andThen_ok, run_sizeOf hti]
  rw [if_neg hmax']
  have hzs' : z.cells.size = ti.size := by omega
  by_cases h0 : n * ti.size = 0
  · have hfill : Instr.fill (fun i => some (i * ti.size, ti.size)) ((Array.range (n * ti.size)).map ((#[] : Array Value)[· % (#[] : Array Value).size]!)) m = some arr' := by
      rw [← f4]; congr 1
      rw [hzs', h0]; simp
    simp [h0] at hfill ⊢
    simp [hfill, run_newRow]
  · rw [if_neg h0]
    rw [hzs'] at f4
    simp only [Sem.run_bind, run_zeroValue hti hz, Result.andThen_ok, Sem.run_pure, hzs', f4, run_newRow]
end Go.Ev
end
section
/- Ev, soundness, part 17: operators of one operand; makeSlice. Conditions: none. -/
namespace Go.Ev
set_option linter.unusedVariables false
variable {P : Program} {rv : RV} {rh : H}

theorem un_ok {ρ : Rho} {o : UnOp} {x : RV} {v : Value} {k : RV → RT} (hx : RR ρ x v) (e : pUn o x k = .ok rv rh) :
    ∃ y u, k y = .ok rv rh ∧ RR ρ y u ∧ ∀ w, (Op.unary o v).run P w = .ok u w := by
  obtain ⟨c, rfl, e1⟩ := onS_ok e
  cases o
  case neg =>
    obtain ⟨j, n, rfl, e2⟩ := onInt_ok e1
    rw [intK_eq, wrapF_eq, subF_eq] at e2
    have := hx.scalar.int
    subst this
    exact ⟨_, _, e2, .s _ _ (VR.int _ _), fun w => by simp [Op.unary, Op.intArith]⟩
  case xor =>
    obtain ⟨j, n, rfl, e2⟩ := onInt_ok e1
    obtain ⟨m, rfl, e3⟩ := iabs_ok e2
    simp only [wrapI, intK_eq, wrapF_eq] at e3
    have := hx.scalar.int
    subst this
    refine ⟨_, _, e3, .s _ _ (VR.int _ _), fun w => ?_⟩
    have hall : BitVec.ofInt j.bits (if j.signed then -1 else j.max) = BitVec.allOnes j.bits := by cases j <;> rfl
    have hx : (BitVec.allOnes j.bits ^^^ BitVec.ofInt j.bits (m : Int)) = ~~~ BitVec.ofInt j.bits (m : Int) := by
      apply BitVec.eq_of_getLsbD_eq; intro i hi; simp [hi]
    have hn : (~~~ BitVec.ofInt j.bits (m : Int)).toNat = unC j m := by
      simp [unC, pow2_eq, BitVec.toNat_not]
      rfl
    show (Op.intBits .xor j (if j.signed then -1 else j.max) (m : Int)).run P w = _
    simp only [Op.intBits, hall, hx, hn, Sem.run_pure]
    rfl
  case not =>
    obtain ⟨b, rfl, e2⟩ := onBool_ok e1
    have := hx.scalar.bool
    subst this
    exact ⟨_, _, e2, .s _ _ (VR.bool _), fun w => by simp [Op.unary, notB_eq]⟩
  case plus => cases e1

theorem makeSlice_ok {cx : Cx} (hcx : CxOk P cx) {ρ : Rho} {h : H} {w : World} {t : Nat} {l c : RV} {vl vc : Value} {k : KV} (r : HR P ρ h w) (hl : RR ρ l vl) (hc : RR ρ c vc) (e : pMkS cx t l c h k = .ok rv rh) :
    Made P rv rh ρ h w k (Instr.makeSlice t vl vc) := by
  obtain ⟨cl, rfl, e1⟩ := onS_ok e
  obtain ⟨jl, nl, rfl, e2⟩ := onInt_ok e1
  obtain ⟨cc, rfl, e3⟩ := onS_ok e2
  obtain ⟨jc, nc, rfl, e4⟩ := onInt_ok e3
  obtain ⟨x, y, rfl, rfl, e5⟩ := nn_ok e4
  have h1 := hl.scalar.int
  have h2 := hc.scalar.int
  subst h1; subst h2
  obtain ⟨d0, hu, e6⟩ := underK_ok hcx e5
  obtain ⟨el, rfl, e7⟩ := dSlice_ok e6
  obtain ⟨ti, hti, e8⟩ := tyK_ok hcx e7
  obtain ⟨hb, e9⟩ := ifB_t e8
  rw [andB_eq, andB_eq] at hb
  simp only [Bool.and_eq_true, Nat.ble_eq] at hb
  obtain ⟨⟨hb1, hb2⟩, hb3⟩ := hb
  obtain ⟨cz, i, z, d, f1, hg, hv, hi, hz, hlen, hu', hrow⟩ := zeroK_ok hcx e9
  rw [hti] at hi; cases hi
  obtain ⟨cr, hk, gr, lr⟩ := Cs.timesK_gives y hg
  rw [hk] at f1
  have hzs : cz.l.length = z.cells.size := by simpa [CRs] using VRs.length (hv ρ)
  have hrel := rows_rel (n := y) (d := cr) (hv ρ) lr
  obtain ⟨h', ρ', hk2, hρ, hr, hst⟩ := newCells_ok (arr := (Array.range (y * z.cells.size)).map (z.cells[· % z.cells.size]!)) (e := el) (exact_ := true) (ex := 0) r gr (fun i v hi => CRs.at hrel i v hi) (fun _ => ⟨rfl, by have := VRs.length hrel; simp at this ⊢; omega⟩)
    (by have := VRs.length hrel; simp at this ⊢; omega)
  rw [hk2] at f1
  refine ⟨_, .slice (some ⟨w.heap.size, 0, none⟩) x y, h', ρ', _, f1, ?_, hr, hst, .s _ _ (by have := VR.sl (ρ := ρ') h.next 0 x y w.heap.size 0 0 hρ; exact this)⟩
  have hbytes : (ti.bytes : Int) * (y : Int) ≤ 281474976710656 := by
    have h3 : ti.bytes * y ≤ 281474976710656 := by rw [Nat.mul_comm]; exact hb3
    have h4 : ((ti.bytes * y : Nat) : Int) ≤ ((281474976710656 : Nat) : Int) := Int.ofNat_le.2 h3
    rw [Int.natCast_mul] at h4
    exact h4
  have := run_make (P := P) w t el ti z hu hti hz jl jc (x : Int) (y : Int) (by omega) (by omega) hbytes (by omega)
  have hzi : z.cells.size = ti.size := by omega
  have hm : madeCells z.cells (y * ti.size) = (Array.range (y * z.cells.size)).map (z.cells[· % z.cells.size]!) := by rw [← hzi]; rfl
  rw [Int.toNat_natCast, Int.toNat_natCast, hm] at this
  exact this
end Go.Ev
end
section
/- Ev, soundness, part 18: values into the evaluator's and out of them; interfaces, functions, tuples. Conditions: none. -/
namespace Go.Ev
set_option linter.unusedVariables false
variable {P : Program} {rv : RV} {rh : H}

theorem mapToV_eq (l : List Ce) : mapToV l = l.map Ce.toV := by
  induction l with
  | nil => rfl
  | cons c l ih => show c.toV :: mapToV l = _; rw [ih]; rfl
theorem ofRV_ok {ρ : Rho} {x : RV} {v : Value} {k : Value → RT} (hx : RR ρ x v) (e : ofRV x k = .ok rv rh) : ∃ u, k u = .ok rv rh ∧ VR ρ u v := by
  cases x with
  | s c => exact ⟨_, e, hx.scalar⟩
  | a c =>
    obtain ⟨vs, rfl, hg, hv⟩ := hx.aggr
    refine ⟨_, e, .agg _ _ ?_⟩
    show VRs ρ (mapToV c.toL) vs.toList
    rw [Cs.toL_eq, mapToV_eq]
    exact hv
  | _ => cases e

/-- A scalar of the model's, as one of the evaluator's. -/
theorem toCeK_ok {ρ : Rho} {u v : Value} {k : Ce → RT} (h : VR ρ u v) (e : toCeK u k = .ok rv rh) : ∃ c, k c = .ok rv rh ∧ CR ρ c v := by
  cases u with
  | bool b => exact ⟨_, e, h⟩
  | int j n =>
    have e1 : intK n (fun n => k (.i j n)) = .ok rv rh := e
    rw [intK_eq] at e1
    exact ⟨_, e1, h⟩
  | string s => exact ⟨_, e, h⟩
  | pointer a => cases a with
    | none => exact ⟨_, e, h⟩
    | some a =>
      obtain ⟨b, o, sp⟩ := a
      cases sp with
      | none => exact ⟨_, e, h⟩
      | some s => cases e
  | slice a n m => cases a with
    | none => exact ⟨_, e, h⟩
    | some a =>
      obtain ⟨b, o, sp⟩ := a
      cases sp with
      | none => exact ⟨_, e, h⟩
      | some s => cases e
  | map r => exact ⟨_, e, h⟩
  | func f a b => exact ⟨_, e, h⟩
  | nilFunc => exact ⟨_, e, h⟩
  | iface t v => exact ⟨_, e, h⟩
  | nilIface => exact ⟨_, e, h⟩
  | _ => cases e

theorem toCsK_ok {ρ : Rho} : ∀ {l : List Value} {vs : List Value} {c : Cs} {us : List Value} {k : Cs → RT}, VRs ρ l vs → c.good → CRs ρ c.l us → toCsK l c k = .ok rv rh → ∃ c', k c' = .ok rv rh ∧ c'.good ∧ CRs ρ c'.l (us ++ vs) := by
  intro l
  induction l with
  | nil => intro vs c us k h hg hc e; cases h; exact ⟨c, e, hg, by simpa using hc⟩
  | cons u l ih =>
    intro vs c us k h hg hc e
    cases h with
    | cons _ v _ vs' h1 h2 =>
    obtain ⟨x, e1, hx⟩ := toCeK_ok (k := fun x => c.mkK (.rep 1 x) fun c => toCsK l c k) h1 e
    obtain ⟨d, hk, hd, hl⟩ := Cs.mkK_gives hg (b := .rep 1 x) trivial
    rw [hk] at e1
    have hd' : CRs ρ d.l (us ++ [v]) := by
      rw [hl]
      show VRs ρ ((c.l ++ [x]).map Ce.toV) _
      rw [List.map_append]
      exact VRs.append hc (.cons _ _ _ _ hx .nil)
    obtain ⟨c', f1, f2, f3⟩ := ih h2 hd hd' e1
    exact ⟨c', f1, f2, by simpa using f3⟩

theorem toRVK_ok {ρ : Rho} {u v : Value} {k : RV → RT} (h : VR ρ u v) (e : toRVK u k = .ok rv rh) : ∃ x, k x = .ok rv rh ∧ RR ρ x v := by
  have scal : toCeK u (fun c => k (.s c)) = .ok rv rh → ∃ x, k x = .ok rv rh ∧ RR ρ x v := fun e => by
    obtain ⟨c, e1, hc⟩ := toCeK_ok h e
    exact ⟨_, e1, .s c v hc⟩
  cases u with
  | agg cs =>
    cases h with
    | agg _ vs hv =>
    obtain ⟨c, e1, hg, hc⟩ := toCsK_ok (us := []) (c := .nil) (k := fun c => k (.a c)) hv trivial .nil e
    exact ⟨_, e1, .a c vs hg (by simpa using hc)⟩
  | tuple vs => cases e
  | _ => exact scal e

theorem mkI_ok {cx : Cx} (hcx : CxOk P cx) {ρ : Rho} {t : Nat} {x : RV} {v : Value} {k : RV → RT} (hx : RR ρ x v) (e : pMkI cx t x k = .ok rv rh) :
    ∃ y u, k y = .ok rv rh ∧ RR ρ y u ∧ ∀ w, (Instr.makeInterface t v).run P w = .ok u w := by
  obtain ⟨z, e1, hz⟩ := ofRV_ok hx e
  obtain ⟨d, hu, e2⟩ := underK_ok hcx e1
  rcases dIface_ok e2 with ⟨_, e3⟩ | ⟨hd, e3⟩
  · cases e3
  · refine ⟨_, .iface t v, e3, .s _ _ (.ifc t z v hz), fun w => ?_⟩
    unfold Instr.makeInterface
    rw [Sem.run_bind, run_underlying hu w]
    cases d <;> first | rfl | exact absurd rfl (hd _)

theorem nthR_ok {ρ : Rho} : ∀ {x : RV} {vs : List Value} {n : Nat} {k : RV → RT}, TR ρ x vs → nthR x n k = .ok rv rh → ∃ y v, k y = .ok rv rh ∧ RR ρ y v ∧ vs[n]? = some v := by
  intro x
  induction x with
  | s c => intro vs n k h e; cases h
  | a c => intro vs n k h e; cases h
  | u => intro vs n k h e; cases e
  | p x r _ ih =>
    intro vs n k h e
    cases h with
    | p _ _ v vs' h1 h2 =>
    cases n with
    | zero => exact ⟨x, v, e, h1, rfl⟩
    | succ n =>
      obtain ⟨y, u, e1, h3, h4⟩ := ih h2 (n := n) (k := k) e
      exact ⟨y, u, e1, h3, by simpa using h4⟩
theorem extract_ok {ρ : Rho} {x : RV} {v : Value} {n : Nat} {k : RV → RT} (hx : RR ρ x v) (e : nthR x n k = .ok rv rh) : ∃ y u, k y = .ok rv rh ∧ RR ρ y u ∧ ∀ w, (Instr.extract v n).run P w = .ok u w := by
  cases hx with
  | s c _ _ => cases e
  | a c vs _ _ => cases e
  | t _ vs h =>
    obtain ⟨y, u, e1, h1, h2⟩ := nthR_ok h e
    refine ⟨y, u, e1, h1, fun w => ?_⟩
    have : vs[n]? = some u := by simpa using h2
    simp [Instr.extract, this]
end Go.Ev
end
section
/- Ev, soundness, part 19: zero values by themselves, assertions, slicing. Conditions: none. -/
namespace Go.Ev
set_option linter.unusedVariables false
variable {P : Program} {rv : RV} {rh : H}

theorem pZero_ok {cx : Cx} (hcx : CxOk P cx) {ρ : Rho} {t : Nat} {k : RV → RT} (e : pZero cx t k = .ok rv rh) : ∃ y u, k y = .ok rv rh ∧ RR ρ y u ∧ ∀ w, (zeroValue t).run P w = .ok u w := by
  obtain ⟨d0, hu, e1⟩ := underK_ok hcx e
  obtain ⟨c, i, z, d, e2, hg, hv, hi, hz, hlen, hu', hrow⟩ := zeroK_ok hcx e1
  rw [hu] at hu'; cases hu'
  rcases dAgg_ok e2 with ⟨hd, e3⟩ | ⟨hd, e3⟩
  · obtain ⟨cs, rfl⟩ := hrow.1 hd
    exact ⟨_, _, e3, .a c cs hg (hv ρ), fun w => run_zeroValue hi hz w⟩
  · obtain ⟨x, hx, e4⟩ := onSome_ok e3
    rw [Cs.get_eq hg] at hx
    have hna : ∀ cs, z ≠ .agg cs := fun cs h => by have := hrow.2 ⟨cs, h⟩; rw [hd] at this; cases this
    have hcell : z.cells = #[z] := by cases z <;> first | rfl | exact absurd rfl (hna _)
    obtain ⟨v', q1, q2⟩ := VRs.get (hv ρ) 0 x.toV (by simp [hx])
    rw [hcell] at q1
    simp at q1
    subst q1
    exact ⟨_, _, e4, .s x z q2, fun w => run_zeroValue hi hz w⟩

theorem assert_ok {cx : Cx} (hcx : CxOk P cx) {ρ : Rho} {t xt : Nat} {ok : Bool} {x : RV} {v : Value} {k : RV → RT} (hx : RR ρ x v) (e : pAssert cx x t ok k = .ok rv rh) :
    ∃ y u, k y = .ok rv rh ∧ RR ρ y u ∧ ∀ w, (Instr.typeAssert v xt t ok).run P w = .ok u w := by
  obtain ⟨c, rfl, e1⟩ := onS_ok e
  obtain ⟨d, hu, e2⟩ := underK_ok hcx e1
  rcases dIface_ok e2 with ⟨_, e3⟩ | ⟨hd, e3⟩
  · cases e3
  obtain ⟨hok, e4⟩ := ifB_t e3
  subst hok
  have no : ∀ {v' : Value}, (v' = .nilIface ∨ ∃ u q, v' = .iface u q ∧ u ≠ t) → pZero cx t (fun z => k (.p z (.p (.s (.b false)) .u))) = .ok rv rh →
      ∃ y u, k y = .ok rv rh ∧ RR ρ y u ∧ ∀ w, (Instr.typeAssert v' xt t true).run P w = .ok u w := fun {v'} hv e => by
    obtain ⟨y, u, e5, hy, hz⟩ := pZero_ok hcx (ρ := ρ) e
    refine ⟨_, .tuple #[u, .bool false], e5, .t _ _ (.p _ _ _ _ hy (.p _ _ _ _ (.s _ _ (VR.bool _)) .u)), fun w => ?_⟩
    unfold Instr.typeAssert
    simp only [Sem.run_bind, run_underlying hu w, Result.andThen_ok]
    rcases hv with rfl | ⟨u', q, rfl, hne⟩
    · cases d <;> first | exact absurd rfl (hd _) | simp [hz]
    · cases d <;> first | exact absurd rfl (hd _) | simp [hne, hz]
  have hc := hx.scalar
  rcases onIface_ok e4 with ⟨u, p, rfl, e5⟩ | ⟨rfl, e5⟩
  · cases hc with
    | ifc _ _ p' hp =>
    rcases ifB_ok e5 with ⟨h1, e6⟩ | ⟨h1, e6⟩
    · have := Nat.eq_of_beq_eq_true h1
      subst this
      obtain ⟨y, e7, hy⟩ := toRVK_ok hp e6
      refine ⟨_, .tuple #[p', .bool true], e7, .t _ _ (.p _ _ _ _ hy (.p _ _ _ _ (.s _ _ (VR.bool _)) .u)), fun w => ?_⟩
      unfold Instr.typeAssert
      simp only [Sem.run_bind, run_underlying hu w, Result.andThen_ok]
      cases d <;> first | exact absurd rfl (hd _) | simp
    · exact no (.inr ⟨u, p', rfl, fun h => by subst h; rw [beq_dec] at h1; simp at h1⟩) e6
  · cases hc
    exact no (.inl rfl) e5
end Go.Ev
end
section
/- Ev, soundness, part 20: slicing. Conditions: none. -/
namespace Go.Ev
set_option linter.unusedVariables false
variable {P : Program} {rv : RV} {rh : H}

/-- Operands that may be missing. -/
inductive OptR (ρ : Rho) : Option RV → Option Value → Prop
  | none : OptR ρ none none
  | some (x : RV) (v : Value) (e : RR ρ x v) : OptR ρ (some x) (some v)

theorem bndK_ok {ρ : Rho} {o : Option RV} {ov : Option Value} {dflt : Nat} {k : Nat → RT} (h : OptR ρ o ov) (e : bndK o dflt k = .ok rv rh) :
    ∃ n, k n = .ok rv rh ∧ ((ov = none ∧ n = dflt) ∨ ∃ j, ov = some (.int j (n : Int))) := by
  cases h with
  | none => exact ⟨dflt, e, .inl ⟨rfl, rfl⟩⟩
  | some x v hx =>
    obtain ⟨c, rfl, e1⟩ := onS_ok (x := x) e
    obtain ⟨j, n, rfl, e2⟩ := onInt_ok e1
    obtain ⟨m, rfl, e3⟩ := iabs_ok e2
    have := hx.scalar.int
    subst this
    exact ⟨m, e3, .inr ⟨j, rfl⟩⟩

theorem run_sliceBound_in {j : IntKind} {n y : Nat} (h : n ≤ y) (code : BoundsCode) (w : World) : (Instr.sliceBound (.int j (n : Int)) y code).run P w = .ok n w := by
  have h0 : (0 : Int) ≤ (n : Int) ∧ (n : Int) ≤ (y : Int) := ⟨by omega, by omega⟩
  simp [Instr.sliceBound, asIntOf, h]

theorem run_sliceBounds_two {isSlice : Bool} {len cap l h : Nat} {low high : Option Value} (hl : (low = none ∧ l = 0) ∨ ∃ j, low = some (.int j (l : Int))) (hh : (high = none ∧ h = len) ∨ ∃ j, high = some (.int j (h : Int)))
    (h1 : l ≤ h) (h2 : h ≤ cap) (w : World) : (Instr.sliceBounds isSlice len cap low high none).run P w = .ok (l, h, cap) w := by
  rcases hl with ⟨rfl, rfl⟩ | ⟨jl, rfl⟩ <;> rcases hh with ⟨rfl, rfl⟩ | ⟨jh, rfl⟩ <;> simp [Instr.sliceBounds, Sem.run_bind, run_sliceBound_in h1, run_sliceBound_in h2]

theorem slcK_eq (b o size ll n c : Nat) (k : RV → RT) : slcK b o size ll n c k = k (.s (.sl b (o + ll * size) (n - ll) (c - ll))) := by simp [slcK, natK_eq]

/-- A text is cut. -/
theorem slStr_ok {ρ : Rho} {t : Nat} {c : Ce} {v : Value} {lo hi : Option RV} {vlo vhi : Option Value} {k : RV → RT} (hu : P.underlying t = some .string) (hc : CR ρ c v) (hlo : OptR ρ lo vlo) (hhi : OptR ρ hi vhi)
    (e : slStr c lo hi k = .ok rv rh) : ∃ y u, k y = .ok rv rh ∧ RR ρ y u ∧ ∀ w, (Instr.sliceAt t v vlo vhi none).run P w = .ok u w := by
  obtain ⟨l, rfl, e1⟩ := onStr_ok e
  rw [natK_eq, llen_eq] at e1
  obtain ⟨hh, e2, h2⟩ := bndK_ok hhi e1
  obtain ⟨ll, e3, h3⟩ := bndK_ok hlo e2
  obtain ⟨ht, e4⟩ := ifB_t e3
  rw [andB_eq] at ht
  simp only [Bool.and_eq_true, Nat.ble_eq] at ht
  rw [ldropK_eq, ltakeK_eq] at e4
  have := hc.str
  subst this
  refine ⟨_, .string ⟨⟨(l.drop ll).take (hh - ll)⟩⟩, e4, .s _ _ (VR.str _), fun w => ?_⟩
  have hs : (⟨⟨l⟩⟩ : ByteArray).size = l.length := rfl
  have hb := run_sliceBounds_two (P := P) (isSlice := false) (len := (⟨⟨l⟩⟩ : ByteArray).size) (cap := (⟨⟨l⟩⟩ : ByteArray).size) h3 h2 ht.1 ht.2 w
  have hx : (⟨⟨l⟩⟩ : ByteArray).extract ll hh = ⟨⟨(l.drop ll).take (hh - ll)⟩⟩ := by
    apply ByteArray.ext
    simp [ByteArray.data_extract, List.extract_eq_take_drop]
  unfold Instr.sliceAt
  simp only [Sem.run_bind, run_underlying hu w, Result.andThen_ok]
  unfold Instr.slice
  simp only [Sem.run_bind, run_underlying hu w, Result.andThen_ok]
  simp [hb, hx]

/-- A row is cut. -/
theorem slNil_ok {ρ : Rho} {t el : Nat} {ti : TypeInfo} {n m : Nat} {lo hi : Option RV} {vlo vhi : Option Value} {k : RV → RT} (hu : P.underlying t = some (.slice el)) (hti : P.info? el = some ti) (hlo : OptR ρ lo vlo) (hhi : OptR ρ hi vhi)
    (e : slNil n m lo hi k = .ok rv rh) : ∃ y u, k y = .ok rv rh ∧ RR ρ y u ∧ ∀ w, (Instr.sliceAt t (.slice none n m) vlo vhi none).run P w = .ok u w := by
  obtain ⟨hh, e2, h2⟩ := bndK_ok hhi e
  obtain ⟨ll, e3, h3⟩ := bndK_ok hlo e2
  obtain ⟨ht, e4⟩ := ifB_t e3
  rw [andB_eq] at ht
  simp only [Bool.and_eq_true, Nat.ble_eq] at ht
  rw [natK_eq, natK_eq] at e4
  refine ⟨_, .slice none (hh - ll) (m - ll), e4, .s _ _ (VR.ns _ _), fun w => ?_⟩
  have hb := run_sliceBounds_two (P := P) (isSlice := true) (len := n) (cap := m) h3 h2 ht.1 ht.2 w
  unfold Instr.sliceAt
  simp only [Sem.run_bind, run_underlying hu w, Result.andThen_ok]
  unfold Instr.slice
  simp only [Sem.run_bind, run_underlying hu w, Result.andThen_ok, hb, run_sizeOf hti]
  simp
end Go.Ev
end
section
/- Ev, soundness, part 21: a handle is forgotten; a handle is made for a block that had another one. Conditions: none. -/
namespace Go.Ev
set_option linter.unusedVariables false
variable {P : Program}

theorem del_sound {ρ : Rho} {h h' : H} {w : World} {a : Nat} (r : HR P ρ h w) (hn : h'.next = h.next) (ha : ∀ m, h'.at m = if m = a then none else h.at m) (hm : ∀ c, c ≠ a → h.at c ≠ some (.miter a)) : HR P ρ h' w ∧ St ρ h w ρ h' w := by
  have sub : ∀ {c o}, h'.at c = some o → h.at c = some o := fun {c o} e => by
    rw [ha] at e
    by_cases hc : c = a
    · rw [if_pos hc] at e; cases e
    · rw [if_neg hc] at e; exact e
  refine ⟨⟨r.glob, r.free, fun a x e => by rw [hn]; exact r.dom a x e, r.blk, fun c o e => r.obj c o (sub e), fun c j e => ?_, fun c c' o1 o2 x x' e1 e2 => r.inj c c' o1 o2 x x' (sub e1) (sub e2)⟩,
    ⟨Rho.sub.refl ρ, by rw [hn]; exact Nat.le_refl _, fun _ _ h => .inl h, Nat.le_refl _, fun _ _ _ => rfl, fun c o x e1 e2 _ => ⟨c, o, x, sub e1, e2, rfl⟩, rfl, rfl, rfl⟩⟩
  obtain ⟨l, h1⟩ := r.mit c j (sub e)
  have hca : c ≠ a := fun h => by subst h; rw [ha, if_pos rfl] at e; cases e
  refine ⟨l, ?_⟩
  rw [ha, if_neg (fun h => by subst h; exact hm c hca (sub e))]
  exact h1

/-- A block's handle is forgotten, and a new one is made for the block. -/
theorem remake_sound {ρ : Rho} {h h' : H} {w w' : World} {a b base ex base' ex' : Nat} {o o' : HObj} (r : HR P ρ h w) (ho : h.at a = some o) (hρ : ρ a = some (b, base, ex)) (hn : h'.next = h.next + 1)
    (ha : ∀ m, h'.at m = if m = h.next then some o' else if m = a then none else h.at m) (hsz : w'.heap.size = w.heap.size) (hoth : ∀ i, i ≠ b → w'.heap[i]? = w.heap[i]?) (hos : w'.os = w.os ∧ w'.output = w.output ∧ w'.tape = w.tape)
    (hor : OR P (ρ.put h.next (b, base', ex')) w'.heap o' b base' ex') (hcells : ∃ arr e fr, w.heap[b]? = some (.cells arr e fr)) (hno : ∀ j, o' ≠ .miter j) :
    HR P (ρ.put h.next (b, base', ex')) h' w' ∧ St ρ h w (ρ.put h.next (b, base', ex')) h' w' := by
  have hsub := Rho.put_sub r.dom (b, base', ex')
  have han : a ≠ h.next := fun e => by have := r.dom a _ hρ; omega
  have hcase : ∀ c x, ρ.put h.next (b, base', ex') c = some x → (c = h.next ∧ x = (b, base', ex')) ∨ (c ≠ h.next ∧ ρ c = some x) := fun c x e => by
    simp only [Rho.put] at e
    by_cases hc : c = h.next
    · rw [if_pos hc] at e; exact .inl ⟨hc, (Option.some.inj e).symm⟩
    · rw [if_neg hc] at e; exact .inr ⟨hc, e⟩
  have old : ∀ {c oc}, c ≠ h.next → h'.at c = some oc → c ≠ a ∧ h.at c = some oc := fun {c oc} hc e => by
    rw [ha, if_neg hc] at e
    by_cases hca : c = a
    · rw [if_pos hca] at e; cases e
    · rw [if_neg hca] at e; exact ⟨hca, e⟩
  refine ⟨⟨r.glob.mono hsub, r.free.keep (fun i hi => hoth i fun h => r.free.2 a _ hρ (by rw [h] at hi; exact hi)) (fun c x e => (hcase c x e).elim (fun h => (by rw [h.2]; exact r.free.2 a (b, base, ex) hρ)) (fun h => r.free.2 c x h.2)), fun c x e => ?_, fun c x e => ?_, fun c oc e => ?_, fun c j e => ?_, fun c c' o1 o2 x x' e1 e2 e3 e4 e5 => ?_⟩, ⟨hsub, by omega, fun c x e => (hcase c x e).elim (fun h => .inr (by omega)) (fun h => .inl h.2), by omega, fun i _ hi => hoth i fun e => hi a o _ ho hρ e.symm, fun c oc x e1 e2 e3 => ?_, hos.1, hos.2.1, hos.2.2⟩⟩
  · rcases hcase c x e with ⟨h1, _⟩ | ⟨_, h2⟩
    · omega
    · have := r.dom c x h2; omega
  · rw [hsz]
    rcases hcase c x e with ⟨_, h1⟩ | ⟨_, h2⟩
    · rw [h1]; exact (r.blk a (b, base, ex) hρ : b < _)
    · exact r.blk c x h2
  · by_cases hc : c = h.next
    · rw [ha, if_pos hc] at e; cases e; exact ⟨b, base', ex', by rw [hc]; exact ρ.put_same _ _, hor⟩
    · obtain ⟨hca, e'⟩ := old hc e
      obtain ⟨b2, base2, ex2, h1, h2⟩ := r.obj c oc e'
      have hne : b2 ≠ b := fun hb => hca (r.inj c a oc o _ _ e' ho h1 hρ hb)
      refine ⟨b2, base2, ex2, hsub _ _ h1, (h2.keep (hoth b2 hne) fun m bm x y hm h4 => ?_).mono hsub⟩
      by_cases hbm : bm = b
      · subst hbm
        obtain ⟨arr, el, fr, hb⟩ := hcells
        rw [hm] at h2
        obtain ⟨bm', x', y', k1, k2, es, clk, k3, k4⟩ := h2
        rw [h4] at k1; cases k1
        rw [hb] at k3; cases k3
      · exact hoth bm hbm
  · by_cases hc : c = h.next
    · rw [ha, if_pos hc] at e; cases e; exact absurd rfl (hno j)
    · obtain ⟨hca, e'⟩ := old hc e
      obtain ⟨l, h1⟩ := r.mit c j e'
      obtain ⟨bj, basej, exj, k1, k2⟩ := r.obj j _ h1
      have hjn := r.dom j _ k1
      have hja : j ≠ a := fun h => by
        subst h
        rw [hρ] at k1; cases k1
        obtain ⟨arr, el, fr, hb⟩ := hcells
        obtain ⟨es, clk, es', q1, _⟩ := k2
        rw [hb] at q1; cases q1
      exact ⟨l, by rw [ha, if_neg (by omega), if_neg hja]; exact h1⟩
  · rcases hcase c x e3 with ⟨h1, h1'⟩ | ⟨h1, h1'⟩ <;> rcases hcase c' x' e4 with ⟨h2, h2'⟩ | ⟨h2, h2'⟩
    · rw [h1, h2]
    · obtain ⟨hca, e'⟩ := old h2 e2
      rw [h1'] at e5
      exact absurd (r.inj c' a o2 o _ _ e' ho h2' hρ e5.symm) hca
    · obtain ⟨hca, e'⟩ := old h1 e1
      rw [h2'] at e5
      exact absurd (r.inj c a o1 o _ _ e' ho h1' hρ e5) hca
    · exact r.inj c c' o1 o2 x x' (old h1 e1).2 (old h2 e2).2 h1' h2' e5
  · rcases hcase c x e2 with ⟨h1, h1'⟩ | ⟨h1, h1'⟩
    · rw [h1']; exact ⟨a, o, _, ho, hρ, rfl⟩
    · exact ⟨c, oc, x, (old h1 e1).2, h1', rfl⟩
end Go.Ev
end
section
/- Ev, soundness, part 22: rows that are cut. Conditions: none. -/
namespace Go.Ev
set_option linter.unusedVariables false
variable {P : Program} {rv : RV} {rh : H}

theorem run_slice_row {t el : TypeId} {ti : TypeInfo} {b o n cap l h : Nat} {vlo vhi : Option Value} (hu : P.underlying t = some (.slice el)) (hti : P.info? el = some ti) (hl : (vlo = none ∧ l = 0) ∨ ∃ j, vlo = some (.int j (l : Int))) (hh : (vhi = none ∧ h = n) ∨ ∃ j, vhi = some (.int j (h : Int)))
    (h1 : l ≤ h) (h2 : h ≤ cap) (w : World) :
    (Instr.sliceAt t (.slice (some ⟨b, o, none⟩) n cap) vlo vhi none).run P w = .ok (.slice (some ⟨b, if cap = l then o else o + l * ti.size, none⟩) (h - l) (cap - l)) w := by
  have hb := run_sliceBounds_two (P := P) (isSlice := true) (len := n) (cap := cap) hl hh h1 h2 w
  unfold Instr.sliceAt
  simp only [Sem.run_bind, run_underlying hu w, Result.andThen_ok]
  unfold Instr.slice
  simp only [Sem.run_bind, run_underlying hu w, Result.andThen_ok, hb, run_sizeOf hti]
  by_cases hc : cap = l
  · simp [hc]
  · simp [hc, Addr.add_mid]

theorem slSl_ok {ρ : Rho} {h : H} {w : World} {t el : TypeId} {ti : TypeInfo} {a o len cap : Nat} {v : Value} {lo hi : Option RV} {vlo vhi : Option Value} {k : KV} (r : HR P ρ h w) (hu : P.underlying t = some (.slice el)) (hti : P.info? el = some ti)
    (hv : CR ρ (.sl a o len cap) v) (hlo : OptR ρ lo vlo) (hhi : OptR ρ hi vhi) (e : slSl ti.size a o len cap h lo hi k = .ok rv rh) : Made P rv rh ρ h w k (Instr.sliceAt t v vlo vhi none) := by
  obtain ⟨hh, e2, h2⟩ := bndK_ok hhi e
  obtain ⟨ll, e3, h3⟩ := bndK_ok hlo e2
  obtain ⟨ht, e4⟩ := ifB_t e3
  rw [andB_eq] at ht
  simp only [Bool.and_eq_true, Nat.ble_eq] at ht
  obtain ⟨b, base, ex, hρ, rfl⟩ := hv.sl
  have hrun := run_slice_row (P := P) (b := b) (o := base + o) (n := len) (cap := cap + ex) hu hti h3 h2 ht.1 (by omega) w
  rcases ifB_ok e4 with ⟨h0, e5⟩ | ⟨h0, e5⟩
  · have hz := Nat.eq_of_beq_eq_true h0
    subst hz
    refine ⟨_, _, h, ρ, w, e5, hrun, r, St.refl _ _ _, .s _ _ ?_⟩
    have := VR.sl (ρ := ρ) a o hh cap b base ex hρ
    simpa [CR, Ce.toV] using this
  · have hne : ll ≠ 0 := fun hz => by rw [hz] at h0; cases h0
    rcases ifB_ok e5 with ⟨h1, e6⟩ | ⟨h1, e6⟩
    · have hcl := Nat.eq_of_beq_eq_true h1
      subst hcl
      obtain ⟨ob, ho, e7⟩ := getK_ok e6
      obtain ⟨c, el', exact_, fz, rfl, e8⟩ := oCells_ok e7
      obtain ⟨b', base', ex', q1, hor⟩ := r.obj _ _ ho
      rw [hρ] at q1; cases q1
      obtain ⟨hg, arr, lo', hi', hb, hc, hex, hsz, hz⟩ := hor
      have hhc : hh = cap := by omega
      subst hhc
      rcases ifB_ok e8 with ⟨hx, e9⟩ | ⟨hx, e9⟩
      · have h0ex := (hex hx).1
        subst h0ex
        rw [if_pos (by omega)] at hrun
        refine ⟨_, _, h, ρ, w, e9, hrun, r, St.refl _ _ _, .s _ _ ?_⟩
        have := VR.sl (ρ := ρ) a o 0 0 b base 0 hρ
        simpa [CR, Ce.toV] using this
      · obtain ⟨htt, e10⟩ := ifB_t e9
        rw [andB_eq, c.size_eq hg] at htt
        simp only [Bool.and_eq_true, Nat.ble_eq] at htt
        have hfz := htt.1
        obtain ⟨hd, hkd, hnd, had⟩ := delK_gives h a
        obtain ⟨h', hk, hn, ha⟩ := newK_gives hd (.cells .nil el' false fz)
        rw [hkd, hk, hnd] at e10
        have hplace : (if hh + ex = hh then base + o else base + o + hh * ti.size) ≤ base + c.l.length := by split <;> omega
        have hor2 : OR P (ρ.put h.next (b, (if hh + ex = hh then base + o else base + o + hh * ti.size), ex)) w.heap (.cells .nil el' false fz) b (if hh + ex = hh then base + o else base + o + hh * ti.size) ex := by
          refine ⟨trivial, arr, lo', hi', hb, fun i v hi => (by simp [Cs.l] at hi), fun h => (by cases h), (by simp only [Cs.l, List.length_nil]; omega), ⟨hz.none, hz.behind, fun h2 => by omega⟩⟩
        obtain ⟨hr, hst⟩ := remake_sound (w' := w) r ho hρ (by rw [hn, hnd]) (fun m => by rw [ha, hnd, had]) rfl (fun _ _ => rfl) ⟨rfl, rfl, rfl⟩ hor2 ⟨arr, el', _, hb⟩ (fun j hj => by cases hj)
        refine ⟨_, _, h', _, w, e10, hrun, hr, hst, .s _ _ ?_⟩
        have := VR.sl (ρ := ρ.put h.next (b, (if hh + ex = hh then base + o else base + o + hh * ti.size), ex)) h.next 0 0 0 b _ ex (ρ.put_same _ _)
        simpa [CR, Ce.toV] using this
    · have hne2 : cap ≠ ll := fun hz => by rw [hz, beq_dec] at h1; simp at h1
      rw [slcK_eq] at e6
      rw [if_neg (by omega)] at hrun
      refine ⟨_, _, h, ρ, w, e6, hrun, r, St.refl _ _ _, .s _ _ ?_⟩
      have := VR.sl (ρ := ρ) a (o + ll * ti.size) (hh - ll) (cap - ll) b base ex hρ
      rw [show cap + ex - ll = cap - ll + ex by omega, Nat.add_assoc]
      exact this
end Go.Ev
end
section
/- Ev, soundness, part 23: slicing, all kinds. Conditions: none. -/
namespace Go.Ev
set_option linter.unusedVariables false
variable {P : Program} {rv : RV} {rh : H}

theorem run_sliceBounds_arr {n l h m : Nat} {low high max : Option Value} (hl : (low = none ∧ l = 0) ∨ ∃ j, low = some (.int j (l : Int))) (hh : (high = none ∧ h = n) ∨ ∃ j, high = some (.int j (h : Int))) (hm : (max = none ∧ m = n) ∨ ∃ j, max = some (.int j (m : Int)))
    (hhm : max = none ∨ high ≠ none) (h1 : l ≤ h) (h2 : h ≤ m) (h3 : m ≤ n) (w : World) : (Instr.sliceBounds false n n low high max).run P w = .ok (l, h, m) w := by
  rcases hm with ⟨rfl, rfl⟩ | ⟨jm, rfl⟩
  · exact run_sliceBounds_two hl hh h1 h2 w
  · rcases hh with ⟨rfl, rfl⟩ | ⟨jh, rfl⟩
    · rcases hhm with h | h
      · cases h
      · exact absurd rfl h
    · rcases hl with ⟨rfl, rfl⟩ | ⟨jl, rfl⟩ <;> simp [Instr.sliceBounds, run_sliceBound_in h1, run_sliceBound_in h2, run_sliceBound_in h3]

theorem both_ok {ρ : Rho} {mx hi : Option RV} {vmx vhi : Option Value} {k : RT} (hm : OptR ρ mx vmx) (hh : OptR ρ hi vhi) (e : both mx hi k = .ok rv rh) : k = .ok rv rh ∧ (vmx = none ∨ vhi ≠ none) := by
  cases hm with
  | none => exact ⟨e, .inl rfl⟩
  | some x v hx => cases hh with
    | none => cases e
    | some y u hy => exact ⟨e, .inr (by simp)⟩

theorem slArr_ok {ρ : Rho} {t el : TypeId} {ti : TypeInfo} {n a o : Nat} {v : Value} {lo hi mx : Option RV} {vlo vhi vmx : Option Value} {k : RV → RT} (hu : P.underlying t = some (.array n el)) (hti : P.info? el = some ti)
    (hv : RR ρ (.s (.p a o)) v) (hex : ∀ b base ex, ρ a = some (b, base, ex) → ex = 0) (hlo : OptR ρ lo vlo) (hhi : OptR ρ hi vhi) (hmx : OptR ρ mx vmx) (e : slArr n ti.size a o lo hi mx k = .ok rv rh) :
    ∃ y u, k y = .ok rv rh ∧ RR ρ y u ∧ ∀ w, (Instr.sliceAt t v vlo vhi vmx).run P w = .ok u w := by
  obtain ⟨e0, hb⟩ := both_ok hmx hhi e
  obtain ⟨mm, e1, h1⟩ := bndK_ok hmx e0
  obtain ⟨hh, e2, h2⟩ := bndK_ok hhi e1
  obtain ⟨ll, e3, h3⟩ := bndK_ok hlo e2
  obtain ⟨ht, e4⟩ := ifB_t e3
  rw [andB_eq, andB_eq] at ht
  simp only [Bool.and_eq_true, Nat.ble_eq] at ht
  obtain ⟨⟨t1, t2⟩, t3⟩ := ht
  obtain ⟨b, base, ex, hρ, rfl⟩ := hv.place
  have hx := hex b base ex hρ
  subst hx
  have hrun := fun w => run_sliceBounds_arr (P := P) h3 h2 h1 hb t1 t2 t3 w
  have hfin : ∀ w, (Instr.sliceAt t (.pointer (some ⟨b, base + o, none⟩)) vlo vhi vmx).run P w = .ok (.slice (some ⟨b, if mm = ll then base + o else base + o + ll * ti.size, none⟩) (hh - ll) (mm - ll)) w := fun w => by
    unfold Instr.sliceAt
    simp only [Sem.run_bind, run_underlying hu w, Result.andThen_ok, Instr.sureAddr, Sem.run_pure, hrun, run_sizeOf hti]
    by_cases hc : mm = ll
    · simp [hc]
    · simp [hc, Addr.add_mid]
  rcases ifB_ok e4 with ⟨h0, e5⟩ | ⟨h0, e5⟩
  · have hml := Nat.eq_of_beq_eq_true h0
    subst hml
    have hz : hh - mm = 0 := by omega
    refine ⟨_, _, e5, .s _ _ ?_, hfin⟩
    have := VR.sl (ρ := ρ) a o 0 0 b base 0 hρ
    simpa [CR, Ce.toV, hz] using this
  · have hne : mm ≠ ll := fun hz => by rw [hz, beq_dec] at h0; simp at h0
    rw [slcK_eq] at e5
    refine ⟨_, _, e5, .s _ _ ?_, hfin⟩
    have := VR.sl (ρ := ρ) a (o + ll * ti.size) (hh - ll) (mm - ll) b base 0 hρ
    rw [if_neg hne, Nat.add_assoc]
    exact this

/-- What makes nothing. -/
theorem Made.of_pure {ρ : Rho} {h : H} {w : World} {k : KV} {sem : Sem Value} (r : HR P ρ h w) (e : ∃ y u, k y h = .ok rv rh ∧ RR ρ y u ∧ ∀ w, sem.run P w = .ok u w) : Made P rv rh ρ h w k sem :=
  let ⟨y, u, e1, e2, e3⟩ := e
  ⟨y, u, h, ρ, w, e1, e3 w, r, St.refl _ _ _, e2⟩

theorem exactK_ok {ρ : Rho} {h : H} {w : World} {a : Nat} {k : RT} (r : HR P ρ h w) (e : exactK a h k = .ok rv rh) : k = .ok rv rh ∧ ∀ b base ex, ρ a = some (b, base, ex) → ex = 0 := by
  obtain ⟨ob, ho, e1⟩ := getK_ok e
  obtain ⟨c, el, exact_, fz, rfl, e2⟩ := oCells_ok e1
  obtain ⟨hx, e3⟩ := ifB_t e2
  refine ⟨e3, fun b base ex hρ => ?_⟩
  obtain ⟨b', base', ex', q1, hor⟩ := r.obj _ _ ho
  rw [hρ] at q1; cases q1
  obtain ⟨hg, arr, lo', hi', hb, hc, hex, hsz, hz⟩ := hor
  exact (hex hx).1

theorem noMax_ok {ρ : Rho} {mx : Option RV} {vmx : Option Value} {k : RT} (h : OptR ρ mx vmx) (e : noMax mx k = .ok rv rh) : k = .ok rv rh ∧ vmx = none := by
  cases h with
  | none => exact ⟨e, rfl⟩
  | some x v hx => cases e

theorem pSlice_ok {cx : Cx} (hcx : CxOk P cx) {ρ : Rho} {h : H} {w : World} {t : Nat} {x : RV} {v : Value} {lo hi mx : Option RV} {vlo vhi vmx : Option Value} {k : KV} (r : HR P ρ h w)
    (hx : RR ρ x v) (hlo : OptR ρ lo vlo) (hhi : OptR ρ hi vhi) (hmx : OptR ρ mx vmx) (e : pSlice cx t x lo hi mx h k = .ok rv rh) : Made P rv rh ρ h w k (Instr.sliceAt t v vlo vhi vmx) := by
  obtain ⟨c, rfl, e1⟩ := onS_ok e
  obtain ⟨d, hu, e2⟩ := underK_ok hcx e1
  rcases dStr_ok e2 with ⟨rfl, e3⟩ | ⟨_, e3⟩
  · obtain ⟨e4, rfl⟩ := noMax_ok hmx e3
    exact .of_pure r (slStr_ok hu hx.scalar hlo hhi e4)
  · rcases dArr_ok e3 with ⟨n, el, rfl, e4⟩ | ⟨_, e4⟩
    · obtain ⟨ti, hti, e5⟩ := tyK_ok hcx e4
      obtain ⟨a, o, hc, e6⟩ := onPlace_ok e5
      cases hc
      obtain ⟨e7, hex⟩ := exactK_ok r e6
      exact .of_pure r (slArr_ok hu hti hx hex hlo hhi hmx e7)
    · obtain ⟨el, rfl, e5⟩ := dSlice_ok e4
      obtain ⟨ti, hti, e6⟩ := tyK_ok hcx e5
      obtain ⟨e7, rfl⟩ := noMax_ok hmx e6
      rcases onSl_ok e7 with ⟨n, m, rfl, e8⟩ | ⟨a, o, n, m, rfl, e8⟩
      · have hv := hx.scalar
        cases hv
        exact .of_pure r (slNil_ok hu hti hlo hhi e8)
      · exact slSl_ok r hu hti hx.scalar hlo hhi e8
end Go.Ev
end

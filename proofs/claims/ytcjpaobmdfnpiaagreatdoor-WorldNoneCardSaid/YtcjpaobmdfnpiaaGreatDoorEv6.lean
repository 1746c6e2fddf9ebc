/- An evaluator of programs by terms that the kernel reduces, and the laws that it tells the truth. Conditions: none. -/
import Derived.Lib.Bytealg
import Derived.Lib.Index
import Derived.Lib.MakeNoZero
import Derived.Maps.RangeRun
import Derived.Test.YtcjpaobmdfnpiaaGreatDoorEv5
set_option linter.all false
section
/- Ev, soundness, part 52: functions without a body. Conditions: none. -/
namespace Go.Ev
set_option linter.unusedVariables false
variable {P : Program} {rv : RV} {rh : H}

/-- A function without a body, and what the model does for it. -/
def ExtIs (P : Program) (f : Nat) (e : Array Value → Sem Value) : Prop :=
  ∃ fn, P.funcs[f]? = some fn ∧ (fn.name == "runtime.NumGoroutine") = false ∧ fn.body.isNone = true ∧ Extern.findNext fn = none ∧ Extern.find fn = some e
theorem ExtIs.next {f : Nat} {e : Array Value → Sem Value} (he : ExtIs P f e) {ρ : Rho} {h : H} {w : World} {vs : List Value} {k : KV} {kp : KP} (m : Made P rv rh ρ h w k (e vs.toArray)) : NextOk P rv rh ρ h w k kp ((callFunc f vs.toArray).run P w) := by
  obtain ⟨fn, h1, h2, h3, h4, h5⟩ := he
  rw [run_callFunc_extern h1 h2 h3 h4 h5]
  obtain ⟨x, v, h', ρ', w', m1, m2, m3, m4, m5⟩ := m
  rw [m2]
  exact ⟨x, h', ρ', m1, m3, m4, m5⟩

theorem args3_ok {ρ : Rho} {args : List RV} {vs : List Value} {k : Ce → Ce → Ce → RT} (h : RRs ρ args vs) (e : args3 args k = .ok rv rh) : ∃ c d f v u t, vs = [v, u, t] ∧ CR ρ c v ∧ CR ρ d u ∧ CR ρ f t ∧ k c d f = .ok rv rh := by
  cases h with
  | nil => cases e
  | cons x v l m hx hl =>
    obtain ⟨c, rfl, e1⟩ := onS_ok (x := x) (k := fun v => args2 l fun w y => k v w y) e
    obtain ⟨d, f, u, t, rfl, h2, h3, e2⟩ := args2_ok hl e1
    exact ⟨c, d, f, v, u, t, rfl, hx.scalar, h2, h3, e2⟩
theorem place_ok {c : Ce} {k : Nat → Nat → RT} (e : place c k = .ok rv rh) : ∃ b o, c = .p b o ∧ k b o = .ok rv rh := by
  rcases onPtr_ok e with ⟨_, e1⟩ | ⟨b, o, h, e1⟩
  · cases e1
  · exact ⟨b, o, h, e1⟩

/-- A cell that is known. -/
theorem cell_ok {ρ : Rho} {h : H} {w : World} {a o b base ex : Nat} {k : Ce → RT} (r : HR P ρ h w) (hρ : ρ a = some (b, base, ex)) (e : cell a o h k = .ok rv rh) :
    ∃ c v, k c = .ok rv rh ∧ CR ρ c v ∧ w.cell? ⟨b, base + o, none⟩ = some v := by
  obtain ⟨ob, ho, e1⟩ := getK_ok e
  obtain ⟨cs, te, exact_, fz, rfl, e2⟩ := oCells_ok e1
  obtain ⟨c, hc, e3⟩ := onSome_ok e2
  obtain ⟨b', base', ex', q1, hor⟩ := r.obj _ _ ho
  rw [hρ] at q1; cases q1
  obtain ⟨hg, arr, lo, hi, hb, hcc, hex, hsz, hz⟩ := hor
  rw [Cs.get_eq hg] at hc
  obtain ⟨v, h1, h2⟩ := hcc o c hc
  exact ⟨c, v, e3, h2, by simp [World.cell?, hb, h1]⟩
theorem CR.i (ρ : Rho) (j : IntKind) (n : Int) : CR ρ (.i j n) (.int j n) := VR.int j n
/-- A scalar is written to a cell. -/
theorem put_cell {ρ : Rho} {h : H} {w : World} {a o b base ex : Nat} {c : Ce} {v : Value} {k : H → RT} (r : HR P ρ h w) (hρ : ρ a = some (b, base, ex)) (hc : CR ρ c v) (e : writeK a o (.rep 1 c) h k = .ok rv rh) :
    ∃ h', k h' = .ok rv rh ∧ (∃ u, w.cell? ⟨b, base + o, none⟩ = some u) ∧ w.frozen? ⟨b, base + o, none⟩ = false ∧ HR P ρ h' (w.setCell ⟨b, base + o, none⟩ v) ∧ St ρ h w ρ h' (w.setCell ⟨b, base + o, none⟩ v) := by
  obtain ⟨ob, ho, e1⟩ := getK_ok e
  obtain ⟨cs, te, exact_, fz, rfl, e2⟩ := oCells_ok e1
  obtain ⟨hfz, e3⟩ := ifB_t e2
  obtain ⟨hfit, e4⟩ := ifB_t e3
  obtain ⟨b', base', ex', q1, q2⟩ := r.obj _ _ ho
  have hg : (Cs.rep 1 c).good := trivial
  have hv : CRs ρ (Cs.rep 1 c).l [v] := .cons _ _ _ _ hc .nil
  rw [(Cs.rep 1 c).size_eq hg, cs.size_eq q2.1, Nat.ble_eq] at hfit
  rw [Nat.ble_eq] at hfz
  obtain ⟨h', hk, hth, hr, hst⟩ := write_sound (off := o) r ho hρ hg hv hfit hfz
  rw [hk] at e
  have := hth 0 (by simp)
  refine ⟨h', e, Option.isSome_iff_exists.1 (by simpa using this.1), by simpa using this.2, hr, hst⟩

theorem xAdd_ok {kd : IntKind} {cx : Cx} {ρ : Rho} {h : H} {w : World} {args : List RV} {vs : List Value} {k : KV} (r : HR P ρ h w) (ha : RRs ρ args vs) (e : xAdd kd cx args h k = .ok rv rh) : Made P rv rh ρ h w k (Extern.Atomic.update (Op.intArith .add) kd true vs.toArray) := by
  obtain ⟨c, d, v, u, rfl, hc, hd, e1⟩ := args2_ok ha e
  obtain ⟨b, o, rfl, e2⟩ := place_ok e1
  obtain ⟨blk, base, ex, hρ, rfl⟩ := (RR.s _ _ hc).place
  obtain ⟨cv, cu, e3, hcv, hcell⟩ := cell_ok r hρ e2
  obtain ⟨j, x, rfl, e4⟩ := onInt_ok e3
  obtain ⟨i, y, rfl, e5⟩ := onInt_ok e4
  rcases ifB_ok e5 with ⟨hk, e6⟩ | ⟨_, e6⟩
  · rw [andB_eq, Bool.and_eq_true] at hk
    have h1 := kindEq_spec hk.1; have h2 := kindEq_spec hk.2
    subst h1; subst h2
    rw [intK_eq, wrapF_eq, addF_eq] at e6
    have := hcv.int; subst this
    have := hd.int; subst this
    obtain ⟨h', e7, _, hfr, hr, hst⟩ := put_cell r hρ (CR.i ρ i (i.wrap (x + y))) e6
    refine ⟨_, _, h', ρ, _, e7, ?_, hr, hst, .s _ _ (VR.int _ _)⟩
    show (Extern.Atomic.update (Op.intArith .add) i true #[.pointer (some ⟨blk, base + o, none⟩), .int i y]).run P w = _
    change Sem.run P (do
      let a ← asAddr (.pointer (some ⟨blk, base + o, none⟩))
      let old ← Extern.Atomic.read (.int i) a
      let new ← Op.intArith .add i (← asInt old) (← asInt (.int i y))
      store a new .atomic
      pure (if true then new else old)) w = _
    simp [Extern.Atomic.read, asAddr, hcell, asInt, asIntOf, Op.intArith, run_store P w ⟨blk, base + o, none⟩ (.int i (i.wrap (x + y))) .atomic rfl, hfr]
  · cases e6
theorem xLoad_ok {kd : IntKind} {cx : Cx} {ρ : Rho} {h : H} {w : World} {args : List RV} {vs : List Value} {k : KV} (r : HR P ρ h w) (ha : RRs ρ args vs) (e : xLoad kd cx args h k = .ok rv rh) : Made P rv rh ρ h w k (Extern.Atomic.loadT (.int kd) vs.toArray) := by
  obtain ⟨c, v, rfl, hc, e1⟩ := args1_ok ha e
  obtain ⟨b, o, rfl, e2⟩ := place_ok e1
  obtain ⟨blk, base, ex, hρ, rfl⟩ := (RR.s _ _ hc).place
  obtain ⟨cv, cu, e3, hcv, hcell⟩ := cell_ok r hρ e2
  obtain ⟨j, x, rfl, e4⟩ := onInt_ok e3
  rcases ifB_ok e4 with ⟨hk, e5⟩ | ⟨_, e5⟩
  · have h1 := kindEq_spec hk; subst h1
    have := hcv.int; subst this
    refine .of_read r ⟨_, _, e5, .s _ _ (VR.int _ _), ?_⟩
    change Sem.run P (do Extern.Atomic.read (.int j) (← asAddr (.pointer (some ⟨blk, base + o, none⟩)))) w = _
    simp [Extern.Atomic.read, asAddr, hcell]
  · cases e5
theorem xStore_ok {cx : Cx} {ρ : Rho} {h : H} {w : World} {args : List RV} {vs : List Value} {k : KV} (r : HR P ρ h w) (ha : RRs ρ args vs) (e : xStore cx args h k = .ok rv rh) : Made P rv rh ρ h w k (Extern.Atomic.storeT vs.toArray) := by
  obtain ⟨c, d, v, u, rfl, hc, hd, e1⟩ := args2_ok ha e
  obtain ⟨b, o, rfl, e2⟩ := place_ok e1
  obtain ⟨blk, base, ex, hρ, rfl⟩ := (RR.s _ _ hc).place
  obtain ⟨j, x, rfl, e3⟩ := onInt_ok e2
  have := hd.int; subst this
  obtain ⟨h', e4, ⟨u, hu⟩, hfr, hr, hst⟩ := put_cell r hρ (CR.i ρ j x) e3
  refine ⟨_, _, h', ρ, _, e4, ?_, hr, hst, RR.undef ρ⟩
  change Sem.run P (do
    store (← asAddr (.pointer (some ⟨blk, base + o, none⟩))) (.int j x) .atomic
    pure Extern.Atomic.none_) w = _
  simp [asAddr, hu, run_store P w ⟨blk, base + o, none⟩ (.int j x) .atomic rfl, hfr, Extern.Atomic.none_, undef]
theorem xCas_ok {kd : IntKind} {cx : Cx} {ρ : Rho} {h : H} {w : World} {args : List RV} {vs : List Value} {k : KV} (r : HR P ρ h w) (ha : RRs ρ args vs) (e : xCas kd cx args h k = .ok rv rh) : Made P rv rh ρ h w k (Extern.Atomic.casT (.int kd) vs.toArray) := by
  obtain ⟨c, d, f, v, u, t, rfl, hc, hd, hf, e1⟩ := args3_ok ha e
  obtain ⟨b, o, rfl, e2⟩ := place_ok e1
  obtain ⟨blk, base, ex, hρ, rfl⟩ := (RR.s _ _ hc).place
  obtain ⟨cv, cu, e3, hcv, hcell⟩ := cell_ok r hρ e2
  obtain ⟨j, x, rfl, e4⟩ := onInt_ok e3
  obtain ⟨j2, y, rfl, e5⟩ := onInt_ok e4
  obtain ⟨i, n, rfl, e6⟩ := onInt_ok e5
  rcases ifB_ok e6 with ⟨hk, e7⟩ | ⟨_, e7⟩
  · rw [andB_eq, andB_eq] at hk
    simp only [Bool.and_eq_true] at hk
    have h1 := kindEq_spec hk.1; have h2 := kindEq_spec hk.2.1; have h3 := kindEq_spec hk.2.2
    subst h1; subst h2; subst h3
    have := hcv.int; subst this
    have := hd.int; subst this
    have := hf.int; subst this
    have hdef : Extern.Atomic.casT (.int i) [.pointer (some ⟨blk, base + o, none⟩), .int i y, .int i n].toArray = (do
      let a' ← asAddr (.pointer (some ⟨blk, base + o, none⟩))
      if ← Extern.Atomic.touchesFrozen a' then unsupported (.unsafePointer "a write to bytes that a string shares")
      let eq ← match Extern.Atomic.T.int i, ← Extern.Atomic.read (.int i) a', Value.int i y with
        | _, .int _ x, .int _ y => pure (x == y)
        | .ptr, .pointer x, .pointer y => samePointer x y
        | .int _, .pointer (some _), .int _ 0 | .int _, .int _ 0, .pointer (some _) => pure false
        | .int _, .pointer (some _), _ | .int _, _, .pointer (some _) => unsupported .addressObserved
        | _, _, _ => stuck "atomic.CompareAndSwap: old is no T"
      if eq then store a' (.int i n) .atomic
      pure (Value.bool eq)) := rfl
    rcases ifB_ok e7 with ⟨hxy, e8⟩ | ⟨hxy, e8⟩
    · rw [natEqInt_eq, beq_iff_eq] at hxy
      subst hxy
      obtain ⟨h', e9, _, hfr, hr, hst⟩ := put_cell r hρ (CR.i ρ i n) e8
      refine ⟨_, _, h', ρ, _, e9, ?_, hr, hst, .s _ _ (VR.bool _)⟩
      rw [hdef]
      simp [Extern.Atomic.touchesFrozen, Extern.Atomic.read, asAddr, viewAt, World.shape?_isSome_of_cell? hcell, hcell, hfr, run_store P w ⟨blk, base + o, none⟩ (.int i n) .atomic rfl]
    · rw [natEqInt_eq, beq_eq_false_iff_ne] at hxy
      obtain ⟨h', e9, _, hfr, _, _⟩ := put_cell r hρ (CR.i ρ i x) e8
      refine .of_read r ⟨_, _, e9, .s _ _ (VR.bool _), ?_⟩
      rw [hdef]
      simp [Extern.Atomic.touchesFrozen, Extern.Atomic.read, asAddr, viewAt, World.shape?_isSome_of_cell? hcell, hcell, hfr, hxy]
  · cases e7
theorem xSame_ok {cx : Cx} {ρ : Rho} {h : H} {w : World} {args : List RV} {vs : List Value} {k : KV} (r : HR P ρ h w) (ha : RRs ρ args vs) (e : xSame cx args h k = .ok rv rh) : Made P rv rh ρ h w k (Extern.AbiNoEscape.same vs.toArray) := by
  cases ha with
  | nil => cases e
  | cons x v l m hx hl =>
    cases hl with
    | nil => exact .of_read r ⟨_, _, e, hx, rfl⟩
    | cons => cases e
theorem xMark_ok {cx : Cx} {ρ : Rho} {h : H} {w : World} {args : List RV} {vs : List Value} {k : KV} {m : Addr → Mark} (r : HR P ρ h w) (ha : RRs ρ args vs) (e : xMark cx args h k = .ok rv rh) : Made P rv rh ρ h w k (Extern.Race.marked m vs.toArray) := by
  obtain ⟨c, v, hv, hc, e1⟩ := arg1_ok ha e
  obtain ⟨b, o, rfl, e2⟩ := place_ok e1
  obtain ⟨blk, base, ex, hρ, rfl⟩ := (RR.s _ _ hc).place
  refine .of_read r ⟨_, _, e2, RR.undef ρ, ?_⟩
  have : vs.toArray[0]? = some (.pointer (some ⟨blk, base + o, none⟩)) := by simpa using hv
  simp [Extern.Race.marked, Extern.Race.at_, this, Extern.Race.none_, undef]
theorem byte_beq (x c : UInt8) : Nat.beq x.toNat c.toNat = (x == c) := by
  rw [beq_dec]
  by_cases h : x = c
  · subst h; simp
  · have h' : x.toNat ≠ c.toNat := fun hh => h (UInt8.toNat_inj.1 hh)
    simp [h, h']
theorem idx_eq {c : UInt8} : ∀ (l : List UInt8) (n : Nat), idx c.toNat l n = if Lib.indexByte l c = -1 then -1 else Lib.indexByte l c + n := by
  intro l
  induction l with
  | nil => intro n; rfl
  | cons x l ih =>
    intro n
    have hun : idx c.toNat (x :: l) n = ifB (Nat.beq x.toNat c.toNat) (.ofNat n) (idx c.toNat l (n + 1)) := rfl
    rw [hun, byte_beq, Lib.indexByte]
    have hge := Lib.indexByte_ge l c
    by_cases hx : (x == c) = true
    · rw [hx]
      show (Int.ofNat n) = _
      simp
    · have hx' : (x == c) = false := by simpa using hx
      rw [hx']
      show idx c.toNat l (n + 1) = _
      rw [ih]
      simp only [Bool.false_eq_true, if_false, beq_iff_eq]
      by_cases hi : Lib.indexByte l c = -1
      · simp [hi]
      · have : ¬ (Lib.indexByte l c + 1 = -1) := by omega
        rw [if_neg hi, if_neg hi, if_neg this]
        omega
theorem byte_of {m : Nat} (h : m < 256) : (UInt8.ofNat m).toNat = m := by simp [UInt8.toNat_ofNat']; omega
theorem xIndexByte_ok {cx : Cx} {ρ : Rho} {h : H} {w : World} {args : List RV} {vs : List Value} {k : KV} (r : HR P ρ h w) (ha : RRs ρ args vs) (e : xIndexByte cx args h k = .ok rv rh) : Made P rv rh ρ h w k (Extern.BytealgIndexByte.indexByte vs.toArray) := by
  obtain ⟨c, d, v, u, rfl, hc, hd, e1⟩ := args2_ok ha e
  obtain ⟨s, rfl, e2⟩ := onStr_ok e1
  obtain ⟨kd, n, rfl, e3⟩ := onInt_ok e2
  obtain ⟨m, rfl, e4⟩ := iabs_ok e3
  rcases ifB_ok e4 with ⟨hk, e5⟩ | ⟨_, e5⟩
  · rw [andB_eq, Bool.and_eq_true] at hk
    have h1 := kindEq_spec hk.1; subst h1
    have hlt : m < 256 := by simpa [Nat.blt_eq] using hk.2
    rw [intK_eq] at e5
    have := hc.str; subst this
    have := hd.int; subst this
    refine .of_read r ⟨_, _, e5, .s _ _ (VR.int _ _), ?_⟩
    have hrun := Lib.run_indexByteString (P := P) ⟨⟨s⟩⟩ (m : Int) w
    have hix := idx_eq (c := UInt8.ofNat m) s 0
    rw [byte_of hlt] at hix
    rw [hix]
    have hb : (m : Int).toNat.toUInt8 = UInt8.ofNat m := rfl
    rw [hb] at hrun
    show (Extern.BytealgIndexByte.indexByte #[.string ⟨⟨s⟩⟩, .int .u8 (m : Int)]).run P w = _
    rw [hrun]
    have : (if Lib.indexByte s (UInt8.ofNat m) = -1 then (-1 : Int) else Lib.indexByte s (UInt8.ofNat m) + (0 : Nat)) = Lib.indexByte s (UInt8.ofNat m) := by
      split
      · rename_i h; exact h.symm
      · simp
    rw [this]
  · cases e5
theorem cnt_eq {c : UInt8} : ∀ (l : List UInt8) (n : Nat), cnt c.toNat l n = n + l.count c := by
  intro l
  induction l with
  | nil => intro n; rfl
  | cons x l ih =>
    intro n
    have hun : cnt c.toNat (x :: l) n = cnt c.toNat l (ifB (Nat.beq x.toNat c.toNat) (n + 1) n) := rfl
    rw [hun, byte_beq, ih, List.count_cons]
    cases x == c with
    | true => show n + 1 + _ = _; simp; omega
    | false => show n + _ = _; simp
theorem xCount_ok {cx : Cx} {ρ : Rho} {h : H} {w : World} {args : List RV} {vs : List Value} {k : KV} (r : HR P ρ h w) (ha : RRs ρ args vs) (e : xCount cx args h k = .ok rv rh) : Made P rv rh ρ h w k (Extern.BytealgCount.count vs.toArray) := by
  obtain ⟨c, d, v, u, rfl, hc, hd, e1⟩ := args2_ok ha e
  obtain ⟨s, rfl, e2⟩ := onStr_ok e1
  obtain ⟨kd, n, rfl, e3⟩ := onInt_ok e2
  obtain ⟨m, rfl, e4⟩ := iabs_ok e3
  rcases ifB_ok e4 with ⟨hk, e5⟩ | ⟨_, e5⟩
  · rw [andB_eq, Bool.and_eq_true] at hk
    have h1 := kindEq_spec hk.1; subst h1
    have hlt : m < 256 := by simpa [Nat.blt_eq] using hk.2
    rw [natK_eq] at e5
    have := hc.str; subst this
    have := hd.int; subst this
    refine .of_read r ⟨_, _, e5, .s _ _ (VR.int _ _), ?_⟩
    have hrun := Lib.run_countString (P := P) ⟨⟨s⟩⟩ (m : Int) w
    have hix := cnt_eq (c := UInt8.ofNat m) s 0
    rw [byte_of hlt] at hix
    rw [hix]
    have hb : (m : Int).toNat.toUInt8 = UInt8.ofNat m := rfl
    rw [hb] at hrun
    show (Extern.BytealgCount.count #[.string ⟨⟨s⟩⟩, .int .u8 (m : Int)]).run P w = _
    rw [hrun, Nat.zero_add]
    rfl
  · cases e5
theorem cmpL_eq : ∀ (a b : List UInt8), cmpL a b = Lib.compareBytes a b := by
  intro a
  induction a with
  | nil => intro b; cases b <;> rfl
  | cons x a ih =>
    intro b
    cases b with
    | nil => rfl
    | cons y b =>
      have hl : ∀ (x y : UInt8) (a b : List UInt8), llt (x :: a) (y :: b) = if x < y then true else if x = y then llt a b else false := fun x y a b => by
        rw [llt_eq, llt_eq]
        simp only [Op.bytesLess]
        by_cases h1 : x < y
        · simp [h1]
        · by_cases h2 : x = y
          · simp [h2]
          · simp [h1, h2]
      unfold cmpL
      rw [hl, hl, Lib.compareBytes]
      rcases Nat.lt_trichotomy x.toNat y.toNat with h | h | h
      · have h1 : x < y := UInt8.lt_iff_toNat_lt.2 h
        simp [h1]; rfl
      · have h1 : x = y := UInt8.toNat_inj.1 h
        subst h1
        have h2 : ¬ x < x := UInt8.lt_irrefl x
        simp only [h2, if_false, if_true]
        exact ih b
      · have h1 : y < x := UInt8.lt_iff_toNat_lt.2 h
        have h2 : ¬ x < y := fun h' => by have := UInt8.lt_iff_toNat_lt.1 h'; omega
        have h3 : ¬ x = y := fun h' => by subst h'; omega
        simp [h1, h2, h3]; rfl
theorem xCmp_ok {cx : Cx} {ρ : Rho} {h : H} {w : World} {args : List RV} {vs : List Value} {k : KV} (r : HR P ρ h w) (ha : RRs ρ args vs) (e : xCmp cx args h k = .ok rv rh) : Made P rv rh ρ h w k (Extern.BytealgCompare.compare vs.toArray) := by
  obtain ⟨c, d, v, u, rfl, hc, hd, e1⟩ := args2_ok ha e
  obtain ⟨s, rfl, e2⟩ := onStr_ok e1
  obtain ⟨t, rfl, e3⟩ := onStr_ok e2
  rw [intK_eq, cmpL_eq] at e3
  have := hc.str; subst this
  have := hd.str; subst this
  exact .of_read r ⟨_, _, e3, .s _ _ (VR.int _ _), Lib.run_compareString (P := P) ⟨⟨s⟩⟩ ⟨⟨t⟩⟩ w⟩
end Go.Ev
end
section
/- Ev, soundness, part 53: MakeNoZero; Index by its contract. Conditions: none. -/
namespace Go.Ev
set_option linter.unusedVariables false
variable {P : Program} {rv : RV} {rh : H}

/-- internal/bytealg.MakeNoZero, its result's type a row of this element. -/
def NoZeroIs (P : Program) (f el : Nat) : Prop := ∃ ps t, ExtIs P f (Extern.BytealgMakeNoZero.makeNoZero ps #[t]) ∧ P.underlying t = some (.slice el) ∧ P.cellsOf el = 1
theorem xNoZero_ok {el f : Nat} {cx : Cx} {ρ : Rho} {h : H} {w : World} {args : List RV} {vs : List Value} {k : KV} {kp : KP} (hf : NoZeroIs P f el) (r : HR P ρ h w) (ha : RRs ρ args vs) (e : xNoZero el cx args h k = .ok rv rh) : NextOk P rv rh ρ h w k kp ((callFunc f vs.toArray).run P w) := by
  obtain ⟨ps, t, he, ht, hco⟩ := hf
  refine he.next ?_
  obtain ⟨c, v, rfl, hc, e1⟩ := args1_ok ha e
  obtain ⟨kd, n, rfl, e2⟩ := onInt_ok e1
  obtain ⟨m, rfl, e3⟩ := iabs_ok e2
  rcases ifB_ok e3 with ⟨hk, e4⟩ | ⟨_, e4⟩
  · rw [andB_eq, Bool.and_eq_true, Nat.ble_eq] at hk
    have h1 := kindEq_spec hk.1; subst h1
    have := hc.int; subst this
    obtain ⟨cs, hrun, hge, _⟩ := Lib.run_makeNoZero (P := P) w ps t el ht m hk.2
    obtain ⟨h', ρ', hk2, hρ, hr, hst⟩ := newCells_fz (c := .nil) (arr := cs) (e := el) (fz := 0) (ex := cs.size) (r.drew (w.drawn + 1 + 1)) trivial (fun i v hi => by simp [Cs.l] at hi) (by simp [Cs.l, hco])
    rw [hk2] at e4
    refine ⟨_, _, h', ρ', _, e4, hrun, hr, (St.drew ρ h w (w.drawn + 1 + 1)).trans hst, .s _ _ ?_⟩
    have := VR.sl (ρ := ρ') h.next 0 m 0 w.heap.size 0 cs.size hρ
    simpa [CR, Ce.toV] using this
  · cases e4

/-- internal/stringslite.Index, by its contract. -/
def IndexIs (P : Program) (f : Nat) : Prop :=
  (∃ fn c, P.funcs[f]? = some fn ∧ (fn.name == "runtime.NumGoroutine") = false ∧ fn.body = some c) ∧ ∀ (s sub : ByteArray) (m : Int) (w : World), s.size < 4294967281 → w.cell? ⟨freeB, 0, none⟩ = some (.int .i64 m) →
    Calls P f #[.string s, .string sub] w fun e w' => e = .returned (.int .i64 (Lib.index s.data.toList sub.data.toList)) ∧ w' = w
theorem isPre_eq : ∀ (a b : List UInt8), isPre a b = a.isPrefixOf b := by
  intro a
  induction a with
  | nil => intro b; rfl
  | cons x a ih =>
    intro b
    cases b with
    | nil => rfl
    | cons y b =>
      show ifB (Nat.beq x.toNat y.toNat) (isPre a b) false = _
      rw [byte_beq, ih]
      simp only [List.isPrefixOf]
      cases x == y <;> rfl
theorem find_eq (sub : List UInt8) : ∀ (s : List UInt8) (n : Nat), find sub s n = if Lib.index s sub = -1 then -1 else Lib.index s sub + n := by
  intro s
  induction s with
  | nil =>
    intro n
    show ifB (isPre sub []) (Int.ofNat n) (Int.negSucc 0) = _
    rw [isPre_eq, Lib.index]
    cases sub with
    | nil => simp [ifB]
    | cons a t => rfl
  | cons x s ih =>
    intro n
    have hun : find sub (x :: s) n = ifB (isPre sub (x :: s)) (Int.ofNat n) (find sub s (n + 1)) := rfl
    rw [hun, isPre_eq, Lib.index]
    have hge := Lib.index_ge s sub
    by_cases hx : sub.isPrefixOf (x :: s) = true
    · rw [hx]
      show (Int.ofNat n) = _
      simp
    · have hx' : sub.isPrefixOf (x :: s) = false := Bool.eq_false_iff.2 hx
      rw [hx']
      show find sub s (n + 1) = _
      rw [ih]
      simp only [Bool.false_eq_true, if_false, beq_iff_eq]
      by_cases hi : Lib.index s sub = -1
      · simp [hi]
      · have : ¬ (Lib.index s sub + 1 = -1) := by omega
        rw [if_neg hi, if_neg hi, if_neg this]
        omega
theorem xIndex_ok {f : Nat} {cx : Cx} {ρ : Rho} {h : H} {w : World} {args : List RV} {vs : List Value} {k : KV} {kp : KP} (hf : IndexIs P f) (r : HR P ρ h w) (ha : RRs ρ args vs) (e : xIndex cx args h k = .ok rv rh) : NextOk P rv rh ρ h w k kp ((callFunc f vs.toArray).run P w) := by
  obtain ⟨⟨fn, c0, h1, h2, h3⟩, hcall⟩ := hf
  rw [run_callFunc_body h1 h2 h3]
  obtain ⟨c, d, v, u, rfl, hc, hd, e1⟩ := args2_ok ha e
  obtain ⟨s, rfl, e2⟩ := onStr_ok e1
  obtain ⟨t, rfl, e3⟩ := onStr_ok e2
  rcases ifB_ok e3 with ⟨hl, e4⟩ | ⟨_, e4⟩
  · have hlt : s.length < 4294967281 := by rw [llen_eq] at hl; simpa [Nat.blt_eq] using hl
    rw [intK_eq] at e4
    have := hc.str; subst this
    have := hd.str; subst this
    obtain ⟨⟨⟨m, cs, ty, fr, q1, q2⟩, _⟩, _⟩ := r.free
    have hcell : w.cell? ⟨freeB, 0, none⟩ = some (.int .i64 m) := by simp [World.cell?, q1, q2]
    refine Calls.mono (hcall ⟨⟨s⟩⟩ ⟨⟨t⟩⟩ m w hlt hcell) fun en w' he => ?_
    obtain ⟨rfl, rfl⟩ := he
    have hx : find t s 0 = Lib.index s t := by
      rw [find_eq]
      split
      · rename_i h; exact h.symm
      · simp
    rw [hx] at e4
    exact ⟨_, h, ρ, e4, r, St.refl _ _ _, .s _ _ (VR.int _ _)⟩
  · cases e4
end Go.Ev
end
section
/- Ev, soundness, part 54: closed checks of regions and codes. Conditions: none. -/
namespace Go.Ev
set_option linter.unusedVariables false
variable {P : Program}

/-! ### what stands ahead of an operation, by bits -/
def maskE (acc : List Nat) (s : Nat) (e : Edge) : Nat := if Region.binds .any e = true then s ||| (2 ^ e.on ||| acc.getD e.on 0) else s
def maskO (acc : List Nat) (o : Oper) : Nat := o.after.toList.foldl (maskE acc) 0
def masks : List Oper → List Nat → List Nat
  | [], acc => acc
  | o :: os, acc => masks os (acc ++ [maskO acc o])
theorem maskE_bit {acc : List Nat} {j : Nat} : ∀ {l : List Edge} {s : Nat}, (l.foldl (maskE acc) s).testBit j = true → s.testBit j = true ∨ ∃ e ∈ l, Region.binds .any e = true ∧ (e.on = j ∨ (acc.getD e.on 0).testBit j = true)
  | [], s, h => .inl h
  | e :: l, s, h => by
    rcases maskE_bit (l := l) (s := maskE acc s e) h with h1 | ⟨e', h1, h2⟩
    · unfold maskE at h1
      by_cases hb : Region.binds .any e = true
      · rw [if_pos hb, Nat.testBit_or, Nat.testBit_or, Nat.testBit_two_pow] at h1
        simp only [Bool.or_eq_true, decide_eq_true_eq] at h1
        rcases h1 with h1 | h1 | h1
        · exact .inl h1
        · exact .inr ⟨e, .head _, hb, .inl h1⟩
        · exact .inr ⟨e, .head _, hb, .inr h1⟩
      · rw [if_neg hb] at h1; exact .inl h1
    · exact .inr ⟨e', .tail _ h1, h2⟩
theorem masks_spec : ∀ (os : List Oper) (acc : List Nat), (masks os acc).length = acc.length + os.length ∧ (masks os acc).take acc.length = acc ∧ ∀ i o, os[i]? = some o → (masks os acc)[acc.length + i]? = some (maskO ((masks os acc).take (acc.length + i)) o)
  | [], acc => ⟨rfl, List.take_length, fun i o h => by cases h⟩
  | x :: os, acc => by
    obtain ⟨h1, h2, h3⟩ := masks_spec os (acc ++ [maskO acc x])
    have hm : masks (x :: os) acc = masks os (acc ++ [maskO acc x]) := rfl
    rw [hm]
    simp only [List.length_append, List.length_cons, List.length_nil] at h1 h2 h3 ⊢
    have h4 : (masks os (acc ++ [maskO acc x])).take acc.length = acc := by
      have := congrArg (List.take acc.length) h2
      rw [List.take_take, Nat.min_eq_left (by omega)] at this
      rw [this]; simp
    refine ⟨by omega, h4, fun i o ho => ?_⟩
    cases i with
    | zero =>
      cases ho
      rw [Nat.add_zero, h4]
      have := congrArg (fun l => l[acc.length]?) h2
      simp only [List.getElem?_take, show acc.length < acc.length + (0 + 1) by omega, if_true] at this
      rw [this]; simp
    | succ i =>
      have := h3 i o (by simpa using ho)
      rw [show acc.length + (i + 1) = acc.length + (0 + 1) + i by omega]
      exact this
theorem mask_anc {os : List Oper} : ∀ (i : Nat) (j : Nat), ((masks os []).getD i 0).testBit j = true → Anc os i j := by
  intro i
  induction i using Nat.strongRecOn with
  | _ i ih =>
    intro j h
    obtain ⟨h1, _, h3⟩ := masks_spec os []
    simp only [List.length_nil, Nat.zero_add] at h1 h3
    cases ho : os[i]? with
    | none =>
      have hn : (masks os [])[i]? = none := by rw [List.getElem?_eq_none_iff]; rw [h1]; exact List.getElem?_eq_none_iff.1 ho
      rw [List.getD_eq_getElem?_getD, hn] at h
      simp at h
    | some o =>
      rw [List.getD_eq_getElem?_getD, h3 i o ho] at h
      rcases maskE_bit (l := o.after.toList) (s := 0) h with h4 | ⟨e, h4, h5, h6⟩
      · simp at h4
      · have he : e ∈ o.after := by simpa using h4
        rcases h6 with h6 | h6
        · subst h6; exact .edge i o e ho he h5
        · rw [List.getD_eq_getElem?_getD, List.getElem?_take] at h6
          by_cases hlt : e.on < i
          · rw [if_pos hlt, ← List.getD_eq_getElem?_getD] at h6
            exact .trans i j o e ho he h5 (ih e.on hlt j h6)
          · rw [if_neg hlt] at h6; simp at h6

/-! ### drawing regions -/
def tmpsOf (l : List Operand) : List Nat := l.filterMap fun | .tmp t => some t | _ => none
def looksL (os : List Oper) (o : Oper) : List Nat := tmpsOf o.op.operands.toList ++ match o.guard with
  | some (j, _) => ((os[j]?).bind (·.dst)).toList
  | none => []
theorem looksL_ok {os : List Oper} {o : Oper} {t : Nat} (h : Looks os o t) : t ∈ looksL os o := by
  unfold looksL
  rw [List.mem_append]
  rcases h with h | ⟨j, b, oj, h1, h2, h3⟩
  · exact .inl (List.mem_filterMap.2 ⟨.tmp t, by simpa using h, rfl⟩)
  · refine .inr ?_
    rw [h1]
    simp [h2, h3]
def opsB (n : Nat) (os : List Oper) : Bool := os.all fun o => match o.dst with
  | some d => Nat.blt d n
  | none => true
theorem opsB_ok {n N : Nat} {os : List Oper} (h : opsB n os = true) (hn : n ≤ N) : OpsFine N os := by
  intro o ho d hd
  have := List.all_eq_true.1 h o ho
  rw [hd] at this
  have h1 : d < n := by simpa [Nat.blt_eq] using this
  exact Nat.lt_of_lt_of_le h1 hn
def bit (M : List Nat) (i j : Nat) : Bool := (M.getD i 0).testBit j
def allI (n : Nat) (p : Nat → Bool) : Bool := (List.range n).all p
theorem allI_ok {n : Nat} {p : Nat → Bool} (h : allI n p = true) (i : Nat) (hi : i < n) : p i = true := List.all_eq_true.1 h i (List.mem_range.2 hi)
noncomputable def drawI (cx : Cx) (os : List Oper) (ds : List Dk) (M : List Nat) (K : Nat) (i : Nat) : Bool :=
  match os[i]?, ds[i]? with
  | some o, some d =>
    nfOp o.op && o.after.toList.all (fun e => !(Region.binds .any e) || Nat.blt e.on i) &&
    allI os.length (fun j => Nat.beq j i || match os[j]? with
      | some o' => match o'.dst with
        | some t => (match o.dst with | some t' => !(Nat.beq t t') | none => true) && (!((looksL os o).any (Nat.beq t)) || bit M i j || bit M j i)
        | none => true
      | none => true) &&
    (match d with
      | .pure => true
      | .load lo hi => rdOp cx o.op && Nat.ble lo K && allI os.length (fun p => match ds[p]? with
        | some .eff => (!(Nat.blt (acts ds p) lo) || bit M i p) && (!(Nat.ble hi (acts ds p)) || bit M p i)
        | _ => true)
      | .eff => allI i fun p => match ds[p]? with
        | some .eff => bit M i p
        | _ => true)
  | _, _ => false
noncomputable def drawB (cx : Cx) (n : Nat) (os : List Oper) (ds : List Dk) : Bool :=
  Nat.ble os.length ds.length && opsB n os && allI os.length (drawI cx os ds (masks os []) (acts ds os.length))

theorem drawB_ok {cx : Cx} {n N : Nat} {os : List Oper} {ds : List Dk} (h : drawB cx n os ds = true) (hn : n ≤ N) : DrawFine cx N os ds := by
  unfold drawB at h
  rw [Bool.and_eq_true, Bool.and_eq_true, Nat.ble_eq] at h
  obtain ⟨⟨hlen, hops⟩, hall⟩ := h
  have key : ∀ (i : Nat) (o : Oper) (d : Dk), os[i]? = some o → ds[i]? = some d → _ := fun i o d ho hd => by
    have h1 := allI_ok hall i (List.getElem?_eq_some_iff.1 ho).1
    unfold drawI at h1
    rw [ho, hd] at h1
    simp only [Bool.and_eq_true] at h1
    exact h1
  have dk : ∀ i o, os[i]? = some o → ∃ d, ds[i]? = some d := fun i o ho => ⟨_, List.getElem?_eq_getElem (by have := (List.getElem?_eq_some_iff.1 ho).1; omega)⟩
  refine ⟨hlen, opsB_ok hops hn, fun i o ho => ?_, fun i o e ho he hb => ?_, fun i j o o' d ho ho' hd hd' => ?_, fun i o lo hi ho hd => ?_, fun i o t j o' ho ht ho' hd' => ?_, fun i j hij hj hi hj' => ?_, fun i lo hi p hi' hd hp hpe hlt => ?_, fun i lo hi p hi' hd hp hpe hle => ?_⟩
  · obtain ⟨d, hd⟩ := dk i o ho
    exact (key i o d ho hd).1.1.1
  · obtain ⟨d, hd⟩ := dk i o ho
    have := List.all_eq_true.1 (key i o d ho hd).1.1.2 e (by simpa using he)
    rw [hb] at this
    simpa [Nat.blt_eq] using this
  · obtain ⟨dd, hdd⟩ := dk i o ho
    have h1 := allI_ok (key i o dd ho hdd).1.2 j (List.getElem?_eq_some_iff.1 ho').1
    rw [ho'] at h1
    simp only [hd, hd', Bool.or_eq_true, Bool.and_eq_true] at h1
    rcases h1 with h1 | h1
    · exact (Nat.eq_of_beq_eq_true h1).symm
    · simp at h1
  · have h1 := (key i o _ ho hd).2
    simp only [Bool.and_eq_true, Nat.ble_eq] at h1
    exact ⟨h1.1.1, h1.1.2⟩
  · obtain ⟨dd, hdd⟩ := dk i o ho
    have h1 := allI_ok (key i o dd ho hdd).1.2 j (List.getElem?_eq_some_iff.1 ho').1
    rw [ho'] at h1
    simp only [hd', Bool.or_eq_true, Bool.and_eq_true] at h1
    rcases h1 with h1 | ⟨_, h1⟩
    · exact .inl (Nat.eq_of_beq_eq_true h1)
    · have hin : (looksL os o).any (Nat.beq t) = true := List.any_eq_true.2 ⟨t, looksL_ok ht, by simp⟩
      rw [hin] at h1
      rcases h1 with (h1 | h1) | h1
      · cases h1
      · exact .inr (.inl (mask_anc i j h1))
      · exact .inr (.inr (mask_anc j i h1))
  · obtain ⟨o, ho⟩ : ∃ o, os[j]? = some o := ⟨_, List.getElem?_eq_getElem hj⟩
    have h1 := allI_ok (key j o _ ho hj').2 i hij
    rw [hi] at h1
    exact mask_anc j i h1
  · obtain ⟨o, ho⟩ : ∃ o, os[i]? = some o := ⟨_, List.getElem?_eq_getElem hi'⟩
    have h1 := (key i o _ ho hd).2
    simp only [Bool.and_eq_true] at h1
    have h2 := allI_ok h1.2 p hp
    rw [hpe] at h2
    simp only [Bool.and_eq_true, Bool.or_eq_true] at h2
    rcases h2.1 with h3 | h3
    · have : Nat.blt (acts ds p) lo = true := by simpa [Nat.blt_eq] using hlt
      rw [this] at h3; cases h3
    · exact mask_anc i p h3
  · obtain ⟨o, ho⟩ : ∃ o, os[i]? = some o := ⟨_, List.getElem?_eq_getElem hi'⟩
    have h1 := (key i o _ ho hd).2
    simp only [Bool.and_eq_true] at h1
    have h2 := allI_ok h1.2 p hp
    rw [hpe] at h2
    simp only [Bool.and_eq_true, Bool.or_eq_true] at h2
    rcases h2.2 with h3 | h3
    · rw [Nat.ble_eq_true_of_le hle] at h3; cases h3
    · exact mask_anc p i h3
end Go.Ev
end
section
/- Ev, soundness, part 55: closed checks of codes and functions. Conditions: none. -/
namespace Go.Ev
set_option linter.unusedVariables false
variable {P : Program}

noncomputable def codeB (cx : Cx) (n : Nat) (dr : Drs) : Code → Bool
  | .region id os draw => if draw = true then (match dr.get id with
      | some ds => drawB cx n os.toList ds
      | none => true) else opsB n os.toList
  | .seq x y => codeB cx n dr x && codeB cx n dr y
  | .cond _ x y => codeB cx n dr x && codeB cx n dr y
  | .block _ x => codeB cx n dr x
  | .loop x => codeB cx n dr x
  | .scope x => codeB cx n dr x
  | _ => true
/-- The blocks that are answered by themselves. -/
def HookAll (P : Program) (dm : Option Md) (N : Nat) (b : B) : Code → Prop
  | .seq x y => HookAll P dm N b x ∧ HookAll P dm N b y
  | .cond _ x y => HookAll P dm N b x ∧ HookAll P dm N b y
  | .block id x => HookOk P dm N b id x ∧ HookAll P dm N b x
  | .loop x => HookAll P dm N b x
  | .scope x => HookAll P dm N b x
  | _ => True
theorem HookAll.no {dm : Option Md} {N : Nat} {b : B} (h : b.hk = .no) : ∀ c, HookAll P dm N b c := by
  intro c
  induction c with
  | seq x y h1 h2 => exact ⟨h1, h2⟩
  | cond c x y h1 h2 => exact ⟨h1, h2⟩
  | block id x h1 => exact ⟨⟨fun hc _ _ => (by rw [h] at hc; cases hc), fun hc _ _ => (by rw [h] at hc; cases hc)⟩, h1⟩
  | loop x h1 => exact h1
  | scope x h1 => exact h1
  | _ => trivial

theorem codeB_ok (hmix : P.follows .mixedOrders = true) {cx : Cx} (hcx : CxOk P cx) (hfs : FieldsOk P) {call : CallT} (hcall : CallOk P call) {dm : Option Md} {n N keep : Nat} {hk : Hk} {dr : Drs} (hn : n ≤ N) : ∀ c, codeB cx n dr c = true → HookAll P dm N (.mk (.mk cx call keep) hk dr .nil) c → CodeOk P dm N (.mk (.mk cx call keep) hk dr .nil) c := by
  intro c
  induction c with
  | region id os draw =>
    intro h _ rv rh ρ e fr h' a u w kN kX kR kP f e1
    cases draw with
    | false =>
      have h1 : opsB n os.toList = true := h
      have e2 : regE os.toList (.mk cx call keep) e fr h' kN kP = .ok rv rh := e1
      exact regE_ok (q := .mk cx call keep) hcx hfs hcall (opsB_ok h1 hn) f e2
    | true =>
      have h1 : (match dr.get id with | some ds => drawB cx n os.toList ds | none => true) = true := h
      have e2 : (onSome (dr.get id) "a drawing region that is not told" fun ds => regD os.toList ds (.mk cx call keep) e fr h' kN kP) = .ok rv rh := e1
      obtain ⟨ds, hds, e3⟩ := onSome_ok e2
      rw [hds] at h1
      exact regD_ok hmix (q := .mk cx call keep) hcx hfs hcall (drawB_ok h1 hn) f e3
  | seq x y h1 h2 =>
    intro h hh
    have h' : (codeB cx n dr x && codeB cx n dr y) = true := h
    rw [Bool.and_eq_true] at h'
    exact ⟨h1 h'.1 hh.1, h2 h'.2 hh.2⟩
  | cond c x y h1 h2 =>
    intro h hh
    have h' : (codeB cx n dr x && codeB cx n dr y) = true := h
    rw [Bool.and_eq_true] at h'
    exact ⟨h1 h'.1 hh.1, h2 h'.2 hh.2⟩
  | block id x h1 => intro h hh; exact ⟨hh.1, h1 h hh.2⟩
  | loop x h1 => intro h hh; exact h1 h hh
  | scope x h1 => intro h hh; exact h1 h hh
  | _ => intro _ _; trivial

noncomputable def resB (keep : Nat) (f : Func) : Bool := f.results.toList.all fun
  | .tmp t => kept keep t
  | .cell a _ => kept keep a
theorem resB_ok {keep : Nat} {f : Func} (h : resB keep f = true) : ResKept keep f := by
  intro r hr
  have := List.all_eq_true.1 h r hr
  cases r <;> exact this
noncomputable def fnB (cx : Cx) (f : Func) (keep : Nat) (dr : Drs) : Bool := !(f.name == "runtime.NumGoroutine") && resB keep f && match f.body with
  | some c => codeB cx f.ntmps dr c
  | none => true
/-- A function of the tables, without a hook. -/
theorem FnOk.of_check (hmix : P.follows .mixedOrders = true) {cx : Cx} (hcx : CxOk P cx) (hfs : FieldsOk P) {g : Nat} {f : Func} {keep : Nat} {dr : Drs} {hk : Hk} (hf : P.funcs[g]? = some f) (h : fnB cx f keep dr = true)
    (hh : ∀ c, f.body = some c → ∀ call, CallOk P call → ∀ N, f.ntmps ≤ N → HookAll P none N (.mk (.mk cx call keep) hk dr .nil) c) : FnOk P cx g f hk keep dr .nil := by
  unfold fnB at h
  rw [Bool.and_eq_true, Bool.and_eq_true] at h
  obtain ⟨⟨h1, h2⟩, h3⟩ := h
  refine ⟨hf, by simpa using h1, resB_ok h2, fun c hb call hcall N hN => ?_⟩
  rw [hb] at h3
  exact ⟨codeB_ok hmix hcx hfs hcall hN c h3 (hh c hb call hcall N hN), fun md => codeB_ok hmix hcx hfs hcall hN c h3 (HookAll.no rfl c)⟩

/-! ### tables -/
/-- All entries of a trie, by their numbers: what begins at the place n, in steps of s. -/
def TrAll {α : Type} (p : Nat → α → Prop) (t : Tr α) : Prop := ∀ n x, t.get n = some x → p n x
theorem TrAll.nil {α : Type} {p : Nat → α → Prop} : TrAll p (.nil : Tr α) := fun n x h => by cases h
theorem TrAll.node {α : Type} {p : Nat → α → Prop} {l r : Tr α} {v : Option α} (hv : ∀ x, v = some x → p 0 x) (hl : TrAll (fun n => p (2 * n + 1)) l) (hr : TrAll (fun n => p (2 * n + 2)) r) : TrAll p (.node l v r) := by
  intro n x h
  cases n with
  | zero => exact hv x h
  | succ n =>
    rw [Tr.get_succ] at h
    by_cases h0 : n % 2 = 0
    · rw [if_pos h0] at h
      have : p (2 * (n / 2) + 1) x := hl _ x h
      rwa [show 2 * (n / 2) + 1 = n + 1 by omega] at this
    · rw [if_neg h0] at h
      have : p (2 * (n / 2) + 2) x := hr _ x h
      rwa [show 2 * (n / 2) + 2 = n + 1 by omega] at this
end Go.Ev
end
section
/- Ev, soundness, part 56: maps that are copied, as lists of their entries. Conditions: none. -/
namespace Go.Ev
set_option linter.unusedVariables false
variable {P : Program} {rv : RV} {rh : H}

/-- A map's entries. -/
def ML.ps : ML → List (Value × RV)
  | .nil => []
  | .cons k v t => (k.toV, v) :: t.ps
def ML.keys : ML → List Value
  | .nil => []
  | .cons k _ t => k.toV :: t.keys
def ML.ints : ML → Prop
  | .nil => True
  | .cons k _ t => (∃ n, k = .i .i64 n) ∧ t.ints
theorem ML.keys_ps : ∀ l : ML, l.keys = l.ps.map (·.1)
  | .nil => rfl
  | .cons k v t => by show _ :: _ = _ :: _; rw [ML.keys_ps t]
theorem keysOk_ok : ∀ {l : ML}, keysOk l = true → l.ints
  | .nil, _ => trivial
  | .cons k v t, h => by
    have h' : ifB (keyI k) (keysOk t) false = true := h
    cases hk : keyI k with
    | true =>
      rw [hk] at h'
      refine ⟨?_, keysOk_ok h'⟩
      cases k with
      | i j n => exact ⟨n, by rw [show j = .i64 from kindEq_spec hk]⟩
      | _ => cases hk
    | false => rw [hk] at h'; cases h'
theorem valsOk_ok {sz : Nat} : ∀ {l : ML}, valsOk sz l = true → ∀ x ∈ l.ps, ∃ c, x.2 = .a c ∧ c.size = sz
  | .nil, _, x, hx => by cases hx
  | .cons k v t, h, x, hx => by
    have h' : ifB (sizeOk sz v) (valsOk sz t) false = true := h
    cases hk : sizeOk sz v with
    | true =>
      rw [hk] at h'
      cases hx with
      | head =>
        cases v with
        | a c => exact ⟨c, rfl, Nat.eq_of_beq_eq_true hk⟩
        | _ => cases hk
      | tail _ hx => exact valsOk_ok h' x hx
    | false => rw [hk] at h'; cases h'

theorem mem_keys {l : ML} {x : Value × RV} (h : x ∈ l.ps) : x.1 ∈ l.keys := by rw [ML.keys_ps]; exact List.mem_map.2 ⟨x, h, rfl⟩

/-- An entry is put. -/
theorem mPut_gives (n : Int) (y : RV) : ∀ l : ML, l.ints → ∃ l' : ML, (∀ k, mPut l (.i .i64 n) y k = k l') ∧ l'.ints ∧
    ((∀ x, x ∈ l'.keys ↔ x = .int .i64 n ∨ x ∈ l.keys) ∧ (l.keys.Nodup → l'.keys.Nodup ∧ ∀ x, x ∈ l'.ps ↔ x = (.int .i64 n, y) ∨ (x ∈ l.ps ∧ x.1 ≠ .int .i64 n)))
  | .nil, _ => ⟨.cons (.i .i64 n) y .nil, fun _ => rfl, ⟨⟨n, rfl⟩, trivial⟩, fun x => by simp [ML.keys, Ce.toV], fun _ => ⟨by simp [ML.keys], fun x => by simp [ML.ps, Ce.toV]⟩⟩
  | .cons k v t, h => by
    obtain ⟨⟨m, rfl⟩, ht⟩ := h
    have hunf : ∀ q, mPut (.cons (.i .i64 m) v t) (.i .i64 n) y q = if n = m then q (.cons (.i .i64 m) y t) else mPut t (.i .i64 n) y fun t1 => q (.cons (.i .i64 m) v t1) := fun q => by
      show (ifB (kindEq .i64 .i64) (boolK (natEqInt n m) fun b => ifB b (q (.cons (.i .i64 m) y t)) (mPut t (.i .i64 n) y fun t1 => q (.cons (.i .i64 m) v t1))) eKey) = _
      have hk : kindEq .i64 .i64 = true := rfl
      rw [hk, boolK_eq]
      show ifB (natEqInt n m) _ _ = _
      rw [natEqInt_eq, show (n == m) = decide (n = m) from by rw [Bool.eq_iff_iff]; simp, ifB_dec]
    by_cases hnm : n = m
    · subst hnm
      refine ⟨.cons (.i .i64 n) y t, fun q => by rw [hunf, if_pos rfl], ⟨⟨n, rfl⟩, ht⟩, fun x => ?_, fun hnd => ⟨hnd, fun x => ?_⟩⟩
      · simp [ML.keys, Ce.toV]
      · have h1 : (Ce.i .i64 n).toV ∉ t.keys := (List.nodup_cons.1 hnd).1
        simp only [ML.ps, Ce.toV, List.mem_cons]
        constructor
        · rintro (h2 | h2)
          · exact .inl h2
          · refine .inr ⟨.inr h2, fun h3 => h1 ?_⟩
            have := mem_keys h2
            rw [h3] at this; exact this
        · rintro (h2 | ⟨h2 | h2, h3⟩)
          · exact .inl h2
          · rw [h2] at h3; exact absurd rfl h3
          · exact .inr h2
    · obtain ⟨t', h1, h2, h3, h4⟩ := mPut_gives n y t ht
      refine ⟨.cons (.i .i64 m) v t', fun q => by rw [hunf, if_neg hnm, h1], ⟨⟨m, rfl⟩, h2⟩, fun x => ?_, fun hnd => ?_⟩
      · simp only [ML.keys, List.mem_cons, h3]
        constructor
        · rintro (h | h | h)
          · exact .inr (.inl h)
          · exact .inl h
          · exact .inr (.inr h)
        · rintro (h | h | h)
          · exact .inr (.inl h)
          · exact .inl h
          · exact .inr (.inr h)
      · obtain ⟨h5, h6⟩ := List.nodup_cons.1 hnd
        obtain ⟨h7, h8⟩ := h4 h6
        have hne : (Ce.i .i64 m).toV ≠ .int .i64 n := fun h => by cases h; exact hnm rfl
        refine ⟨List.nodup_cons.2 ⟨fun h => ?_, h7⟩, fun x => ?_⟩
        · rcases (h3 _).1 h with h | h
          · exact hne h
          · exact h5 h
        · simp only [ML.ps, List.mem_cons, h8]
          constructor
          · rintro (h | h | h)
            · exact .inr ⟨.inl h, by rw [h]; exact hne⟩
            · exact .inl h
            · exact .inr ⟨.inr h.1, h.2⟩
          · rintro (h | ⟨h | h, h9⟩)
            · exact .inr (.inl h)
            · exact .inl h
            · exact .inr (.inr ⟨h, h9⟩)

/-- A map is copied into another one. -/
theorem mCopy_gives : ∀ l l2 : ML, l.ints → l2.ints → l.keys.Nodup → l2.keys.Nodup → ∃ l' : ML, (∀ k, mCopy l l2 k = k l') ∧ l'.ints ∧ l'.keys.Nodup ∧ ∀ x, x ∈ l'.ps ↔ x ∈ l.ps ∨ (x ∈ l2.ps ∧ x.1 ∉ l.keys)
  | .nil, l2, _, h2, _, h4 => ⟨l2, fun _ => rfl, h2, h4, fun x => by simp [ML.ps, ML.keys]⟩
  | .cons k v t, l2, h1, h2, h3, h4 => by
    obtain ⟨⟨n, rfl⟩, ht⟩ := h1
    obtain ⟨h5, h6⟩ := List.nodup_cons.1 h3
    obtain ⟨b, e1, e2, e3, e4⟩ := mPut_gives n v l2 h2
    obtain ⟨e5, e6⟩ := e4 h4
    obtain ⟨l', f1, f2, f3, f4⟩ := mCopy_gives t b ht e2 h6 e5
    refine ⟨l', fun q => ?_, f2, f3, fun x => ?_⟩
    · show mPut l2 (.i .i64 n) v (fun b => mCopy t b q) = _
      rw [e1, f1]
    · rw [f4, e6]
      simp only [ML.ps, ML.keys, Ce.toV, List.mem_cons, not_or] at h5 ⊢
      constructor
      · rintro (h | ⟨h | ⟨h, h7⟩, h8⟩)
        · exact .inl (.inr h)
        · exact .inl (.inl h)
        · exact .inr ⟨h, h7, h8⟩
      · rintro ((h | h) | ⟨h, h7, h8⟩)
        · exact .inr ⟨.inl h, by rw [h]; exact h5⟩
        · exact .inl h
        · exact .inr ⟨.inr ⟨h, h7⟩, h8⟩

theorem ML.nodup_ps {l : ML} (h : l.keys.Nodup) : l.ps.Nodup := by
  rw [ML.keys_ps] at h
  exact List.Pairwise.imp (fun hne he => hne (by rw [he])) (List.pairwise_map.1 h)
theorem MR.keys {ρ : Rho} {l : ML} {es : List MapEntry} (h : MR ρ l es) : l.keys = es.map (·.key) := by
  induction h with
  | nil => rfl
  | cons k v t e es hk hv ht ih => show _ :: _ = _ :: _; rw [hk, ih]
/-- An entry stands to an entry. -/
def EntR (ρ : Rho) (x : Value × RV) (e : MapEntry) : Prop := x.1 = e.key ∧ RR ρ x.2 e.val
inductive All2 {α β : Type} (p : α → β → Prop) : List α → List β → Prop
  | nil : All2 p [] []
  | cons (x : α) (y : β) (l : List α) (m : List β) (h : p x y) (t : All2 p l m) : All2 p (x :: l) (y :: m)
theorem MR.all2 {ρ : Rho} {l : ML} {es : List MapEntry} (h : MR ρ l es) : All2 (EntR ρ) l.ps es := by
  induction h with
  | nil => exact .nil
  | cons k v t e es hk hv ht ih => exact .cons _ _ _ _ ⟨hk, hv⟩ ih
theorem MR.of_all2 {ρ : Rho} : ∀ {l : ML} {es : List MapEntry}, All2 (EntR ρ) l.ps es → MR ρ l es
  | .nil, _, h => by cases h; exact .nil
  | .cons k v t, _, h => by
    cases h with
    | cons _ _ _ _ h1 h2 => exact .cons k v t _ _ h1.1 h1.2 (MR.of_all2 h2)
theorem All2.perm {α β : Type} {p : α → β → Prop} {l l' : List α} (h : l.Perm l') : ∀ {m : List β}, All2 p l m → ∃ m', m'.Perm m ∧ All2 p l' m' := by
  induction h with
  | nil => intro m h; exact ⟨m, .refl _, h⟩
  | cons x hp ih =>
    intro m h
    cases h with
    | cons _ y _ m h1 h2 =>
      obtain ⟨m', h3, h4⟩ := ih h2
      exact ⟨y :: m', h3.cons y, .cons _ _ _ _ h1 h4⟩
  | swap x y l =>
    intro m h
    cases h with
    | cons _ a _ m h1 h2 =>
      cases h2 with
      | cons _ b _ m h2 h3 => exact ⟨b :: a :: m, .swap _ _ _, .cons _ _ _ _ h2 (.cons _ _ _ _ h1 h3)⟩
  | trans h1 h2 ih1 ih2 =>
    intro m h
    obtain ⟨m1, h3, h4⟩ := ih1 h
    obtain ⟨m2, h5, h6⟩ := ih2 h4
    exact ⟨m2, h5.trans h3, h6⟩
theorem All2.left {α β : Type} {p : α → β → Prop} {l : List α} {m : List β} (h : All2 p l m) : ∀ x ∈ l, ∃ y ∈ m, p x y := by
  induction h with
  | nil => intro x hx; cases hx
  | cons x y l m h1 h2 ih =>
    intro z hz
    cases hz with
    | head => exact ⟨y, .head _, h1⟩
    | tail _ hz => obtain ⟨y', h3, h4⟩ := ih z hz; exact ⟨y', .tail _ h3, h4⟩
theorem All2.right {α β : Type} {p : α → β → Prop} {l : List α} {m : List β} (h : All2 p l m) : ∀ y ∈ m, ∃ x ∈ l, p x y := by
  induction h with
  | nil => intro x hx; cases hx
  | cons x y l m h1 h2 ih =>
    intro z hz
    cases hz with
    | head => exact ⟨x, .head _, h1⟩
    | tail _ hz => obtain ⟨y', h3, h4⟩ := ih z hz; exact ⟨y', .tail _ h3, h4⟩

/-- One map of the same entries as another one stands to the same block. -/
theorem OR.same {ρ : Rho} {heap : Array Obj} {l l' : ML} {rg b base ex : Nat} (h : OR P ρ heap (.map l rg) b base ex) (hn : l'.keys.Nodup) (hp : ∀ x, x ∈ l'.ps ↔ x ∈ l.ps) : OR P ρ heap (.map l' rg) b base ex := by
  obtain ⟨es, clk, es', h1, h2, h3, h4, h5, h6, h7⟩ := h
  have hk : l.keys.Nodup := by rw [h3.keys]; exact h4
  have hperm : l.ps.Perm l'.ps := (List.perm_ext_iff_of_nodup (ML.nodup_ps hk) (ML.nodup_ps hn)).2 fun x => (hp x).symm
  obtain ⟨es2, h8, h9⟩ := h3.all2.perm hperm
  exact ⟨es, clk, es2, h1, h8.trans h2, .of_all2 h9, (h8.map _).nodup_iff.2 h4, h5.imp fun c hc e he => hc e (h8.mem_iff.1 he), fun e he => h6 e (h8.mem_iff.1 he), (h8.map _).nodup_iff.2 h7⟩
end Go.Ev
end
section
/- Ev, soundness, part 57: steps of a loop that copies a map: one operation, a drawing region of readers and one writer, a box. Conditions: none. -/
namespace Go.Ev
set_option linter.unusedVariables false
variable {P : Program} {rv : RV} {rh : H}

/-! ### operations in the text's order -/
theorem GOps.value {d : Bool} {ops : Array Oper} {Q : GQ} {i : Nat} {rest : List Nat} {a : Act} {u : FrameMode} {w w' : World} {o : Oper} {v : Value} (ho : ops[i]? = some o) (hg : o.guard = none) (hr : (execOp a.eval o).run P w = .ok (.value v) w') (h : GOps P d ops Q rest (a.put o.dst v) u w') :
    GOps P d ops Q (i :: rest) a u w := by
  simp only [GOps, ho]
  rw [if_pos (by simp [Region.wanted, hg])]
  refine .inr ?_
  rw [hr]; exact h
theorem GOps.skip {d : Bool} {ops : Array Oper} {Q : GQ} {i : Nat} {rest : List Nat} {a : Act} {u : FrameMode} {w w' : World} {o : Oper} (ho : ops[i]? = some o) (hg : o.guard = none) (hr : (execOp a.eval o).run P w = .ok .skip w') (h : GOps P d ops Q rest (a.put o.dst undef) u w') :
    GOps P d ops Q (i :: rest) a u w := by
  simp only [GOps, ho]
  rw [if_pos (by simp [Region.wanted, hg])]
  refine .inr ?_
  rw [hr]; exact h

/-! ### a drawing region: operations that read, and one that waits for all of them -/
theorem draw_readers (hmix : P.follows .mixedOrders = true) {d : Bool} {id : Nat} {ops : Array Oper} {Q : GQ} {a : Act} {u : FrameMode} {w : World} {n : Nat} (hn : ops.size = n + 1) (val : Nat → Value) (dst : Nat → Nat)
    (hback : ∀ j o e, ops[j]? = some o → e ∈ o.after → Region.binds .any e = true → e.on < j)
    (hdst : ∀ j o, j < n → ops[j]? = some o → o.dst = some (dst j) ∧ o.guard = none) (hinj : ∀ i j, i < n → j < n → dst i = dst j → i = j) (hlt : ∀ j, j < n → dst j < a.tmps.size)
    (hread : ∀ j o, j < n → ops[j]? = some o → ∀ b : Act, (∀ t, (∀ i, i < n → dst i ≠ t) → b.tmps.getD t undef = a.tmps.getD t undef) → (∀ e ∈ o.after, Region.binds .any e = true → e.on < n → b.tmps.getD (dst e.on) undef = val e.on) →
      (execOp b.eval o).run P { w with drawn := w.drawn + 1 } = .ok (.value (val j)) { w with drawn := w.drawn + 1 })
    (hlast : ∃ o, ops[n]? = some o ∧ o.guard = none ∧ (∀ j, j < n → ∃ e ∈ o.after, Region.binds .any e = true ∧ e.on = j) ∧ ∀ b : Act, b.tmps.size = a.tmps.size → b.defers = a.defers → (∀ t, (∀ i, i < n → dst i ≠ t) → b.tmps.getD t undef = a.tmps.getD t undef) → (∀ j, j < n → b.tmps.getD (dst j) undef = val j) →
      ∃ w2, (execOp b.eval o).run P { w with drawn := w.drawn + 1 } = .ok .skip w2 ∧ Q .normal (b.put o.dst undef) u w2) :
    GWp P d (.region id ops true) Q a u w := by
  refine .of_wp (wp_region_draw fun t => ?_)
  obtain ⟨ol, hol, hgl, hal, hl⟩ := hlast
  have main : ∀ (fuel : Nat) (listed : Array Bool) (b : Act), listed.size = n + 1 → left listed ≤ fuel → listed.getD n false = false → b.tmps.size = a.tmps.size → b.defers = a.defers → (∀ t, (∀ i, i < n → dst i ≠ t) → b.tmps.getD t undef = a.tmps.getD t undef) →
      (∀ j, j < n → listed.getD j false = true → b.tmps.getD (dst j) undef = val j) → wpAny P .any ops (fun e a w => Q e a u w) fuel listed b { w with drawn := w.drawn + 1 } := by
    intro fuel
    induction fuel with
    | zero =>
      intro listed b hsz hleft hnl
      exfalso
      have h1 : listed.getD n true = false := by simpa [Array.getD, hsz] using hnl
      have := left_set (listed := listed) (i := n) (by omega) h1
      omega
    | succ fuel ih =>
      intro listed b hsz hleft hnl hbs hbd hbr hbv
      refine ⟨fun hr => ?_, fun i hi => ?_⟩
      · exfalso
        have hall : ∀ j, j < n → listed.getD j false = true := by
          intro j
          induction j using Nat.strongRecOn with
          | _ j ihj =>
            intro hj
            cases hb : listed.getD j true with
            | true => simpa [Array.getD, hsz, Nat.lt_succ_of_lt hj] using hb
            | false =>
              have hjo : j < ops.size := by omega
              have : j ∈ Region.ready .any ops listed := by
                rw [mem_ready]
                refine ⟨hb, ops[j], by simp [hjo], fun e he hbe => ?_⟩
                have hlt := hback j ops[j] e (Array.getElem?_eq_getElem hjo) he hbe
                exact ihj e.on hlt (by omega)
              rw [hr] at this; cases this
        have : n ∈ Region.ready .any ops listed := by
          rw [mem_ready]
          exact ⟨by simpa [Array.getD, hsz] using hnl, ol, hol, fun e he hbe => hall e.on (hback n ol e hol he hbe)⟩
        rw [hr] at this; cases this
      · obtain ⟨h1, o, ho, hr⟩ := mem_ready.1 hi
        have hil : i < n + 1 := by rw [← hn]; exact (Array.getElem?_eq_some_iff.1 ho).1
        have hfin : left (listed.setIfInBounds i true) ≤ fuel := by
          have := left_set (listed := listed) (i := i) (by omega) h1
          omega
        by_cases hin : i < n
        · obtain ⟨hd, hg⟩ := hdst i o hin ho
          have hrun := hread i o hin ho b hbr fun e he hbe hen => hbv e.on hen (hr e he hbe)
          unfold wpOp
          rw [ho]
          simp only []
          rw [if_pos (by simp [Region.wanted, hg])]
          refine .inl ?_
          unfold Oper.wp
          rw [hrun]
          show wpAny P .any ops _ fuel (listed.setIfInBounds i true) (b.put o.dst (val i)) _
          have hbound : ∀ x, o.dst = some x → x < b.tmps.size := fun x hx => by rw [hd] at hx; cases hx; rw [hbs]; exact hlt i hin
          refine ih _ _ (by simpa using hsz) hfin ?_ (by rw [put_size]; exact hbs) (by rw [put_defers]; exact hbd) (fun t ht => ?_) fun j hj hlj => ?_
          · rw [getD_set_ne false (by omega)]; exact hnl
          · rw [put_getD hbound, hd, if_neg (fun h => ht i hin (by cases h; rfl))]; exact hbr t ht
          · rw [put_getD hbound, hd]
            by_cases hij : i = j
            · subst hij; rw [if_pos rfl]
            · rw [if_neg (fun h => hij (hinj i j hin hj (Option.some.inj h)))]
              rw [getD_set_ne false hij] at hlj
              exact hbv j hj hlj
        · have : i = n := by omega
          subst this
          rw [hol] at ho; cases ho
          have hall : ∀ j, j < i → listed.getD j false = true := fun j hj => by
            obtain ⟨e, he, hbe, rfl⟩ := hal j hj
            exact hr e he hbe
          obtain ⟨w2, hrun, hq⟩ := hl b hbs hbd hbr fun j hj => hbv j hj (hall j hj)
          unfold wpOp
          rw [hol]
          simp only []
          rw [if_pos (by simp [Region.wanted, hgl])]
          refine .inl ?_
          unfold Oper.wp
          rw [hrun]
          show wpAny P .any ops _ fuel (listed.setIfInBounds i true) (b.put ol.dst undef) w2
          have hnone : Region.ready .any ops (listed.setIfInBounds i true) = [] := by
            cases hrr : Region.ready .any ops (listed.setIfInBounds i true) with
            | nil => rfl
            | cons j l =>
              have hj : j ∈ Region.ready .any ops (listed.setIfInBounds i true) := by rw [hrr]; exact .head _
              obtain ⟨k1, oj, k2, _⟩ := mem_ready.1 hj
              have hjl : j < i + 1 := by rw [← hn]; exact (Array.getElem?_eq_some_iff.1 k2).1
              by_cases hji : i = j
              · subst hji; simp [hsz] at k1
              · rw [getD_set_ne true hji] at k1
                have := hall j (by omega)
                simp [Array.getD, hsz, hjl] at k1 this
                rw [k1] at this; cases this
          cases fuel with
          | zero => exact ⟨hnone, hq⟩
          | succ f => exact ⟨fun _ => hq, fun j hj => by rw [hnone] at hj; cases hj⟩
  have hm := main (n + 1) (Array.replicate (n + 1) false) a (by simp) (by
      unfold left
      have := List.countP_le_length (p := fun b => !b) (l := (Array.replicate (n + 1) false).toList)
      simpa using this) (by simp [Array.getD]) rfl rfl (fun _ _ => rfl) (fun j hj h => by simp [Array.getD, Nat.lt_succ_of_lt hj] at h)
  rw [← hn] at hm
  simp only [Region.schedule, hmix, Bool.true_or, if_true]
  exact wpAny_sound ops.size t _ a _ hm

/-! ### a box of rows -/
/-- What is known of a row's type. -/
structure RowTy (P : Program) (te sz : Nat) : Prop where
  ex : ∃ i z d, P.info? te = some i ∧ i.size = sz ∧ i.zero = some z ∧ z.cells.size = sz ∧ P.underlying te = some d ∧ d.isRow = true
theorem box_new {te sz : Nat} (T : RowTy P te sz) (w : World) : ∃ z : Array Value, z.size = sz ∧ (Instr.alloc te true (.tuple #[])).run P w = .ok (.pointer (some ⟨w.heap.size, 0, none⟩)) (pushed w (.cells z te)) := by
  obtain ⟨i, z, d, hi, _, hz, hc, _⟩ := T.ex
  exact ⟨z.cells, hc, by simp only [Instr.alloc, newVar, Sem.run_bind, run_zeroValue hi hz, Result.andThen_ok, run_newRow, Sem.run_pure]⟩
theorem box_store {te sz n : Nat} (T : RowTy P te sz) {w : World} {z arr : Array Value} (hb : w.heap[n]? = some (.cells z te (0, 0))) (hz : z.size = sz) (ha : arr.size = sz) (h1 : ∀ v ∈ arr.toList, v.oneCell' = true) :
    ∃ w', (Instr.storeAt te (.pointer (some ⟨n, 0, none⟩)) (.agg arr)).run P w = .ok () w' ∧ w'.heap[n]? = some (.cells arr te (0, 0)) ∧ w'.heap.size = w.heap.size ∧ (∀ i, i ≠ n → w'.heap[i]? = w.heap[i]?) ∧ w'.os = w.os ∧ w'.output = w.output ∧ w'.tape = w.tape := by
  obtain ⟨i, z', d, hi, hs, _⟩ := T.ex
  have hc : ∀ j, j < arr.toList.length → (w.cell? ⟨n, 0 + 0 + j, none⟩).isSome = true := fun j hj => by
    have : j < z.size := by simpa [hz, ← ha] using hj
    simp [World.cell?, hb, this]
  have hf : ∀ j, j < arr.toList.length → w.frozen? ⟨n, 0 + 0 + j, none⟩ = false := fun j _ => by simp [World.frozen?, hb]
  have h2 := run_storeCells_cells (P := P) n 0 arr.toList 0 w hc hf h1
  obtain ⟨arr', e1, e2, e3⟩ := setCells_heap n te (0, 0) arr.toList 0 w z hb (by simp; omega)
  obtain ⟨f1, f2, f3, f4⟩ := setCells_rest n arr.toList 0 w
  have harr : arr' = arr := by
    apply Array.ext'
    apply List.ext_getElem?
    intro j
    rw [Array.getElem?_toList, e3]
    by_cases hj : j < arr.size
    · rw [if_pos (by simp; exact hj)]; simp
    · rw [if_neg (by simp; omega), Array.getElem?_eq_none (by omega)]
      simp; omega
  subst harr
  refine ⟨_, ?_, e1, f1, fun i hi => setCells_other n arr'.toList 0 w i hi, f2, f3, f4⟩
  have hsize : arr'.size = i.size := by omega
  have hcells : (Value.agg arr').cells = arr' := rfl
  simp only [Instr.storeAt, Instr.sureAddr, Sem.run_bind, Sem.run_pure, Result.andThen_ok, storeVar, run_sizeOf hi]
  simpa [hsize, hcells] using h2
theorem box_load {te sz n : Nat} (T : RowTy P te sz) {w : World} {arr : Array Value} {fr : Nat × Nat} (hb : w.heap[n]? = some (.cells arr te fr)) (ha : arr.size = sz) :
    (Instr.loadAt te (.pointer (some ⟨n, 0, none⟩))).run P w = .ok (.agg arr) w := by
  obtain ⟨i, z', d, hi, hs, _, _, hu, hr⟩ := T.ex
  obtain ⟨lo, hi'⟩ := fr
  have := run_loadAt_mid (P := P) w n 0 te arr.toList d (fun j v hj => by simp [World.cell?, hb]; simpa using hj) hu hr (by rw [hi]; simp [hs, ha])
  simpa using this

/-! ### blocks that no handle names -/
theorem HR.grow {ρ : Rho} {h : H} {w w' : World} (r : HR P ρ h w) (hs : w.heap.size ≤ w'.heap.size) (hk : ∀ b, b < w.heap.size → (∃ a x, ρ a = some x ∧ x.1 = b ∧ (∃ o, h.at a = some o)) ∨ isFree b → w'.heap[b]? = w.heap[b]?) : HR P ρ h w' := by
  refine ⟨r.glob, r.free.keep (fun b hb => hk b (r.free.lt hb) (.inr hb)) r.free.2, r.dom, fun a x e => Nat.lt_of_lt_of_le (r.blk a x e) hs, fun a o e => ?_, r.mit, r.inj⟩
  obtain ⟨b, base, ex, h1, h2⟩ := r.obj a o e
  refine ⟨b, base, ex, h1, h2.keep (hk b (r.blk a _ h1) (.inl ⟨a, _, h1, rfl, o, e⟩)) fun m bm x y hm h4 => ?_⟩
  subst hm
  obtain ⟨l, h5⟩ := r.mit a m e
  exact hk bm (r.blk m _ h4) (.inl ⟨m, _, h4, rfl, _, h5⟩)
end Go.Ev
end
section
/- Ev, soundness, part 58: one round of a loop that copies a map. Conditions: none. -/
namespace Go.Ev
set_option linter.unusedVariables false
variable {P : Program} {rv : RV} {rh : H}

theorem put_get {a : Act} {d t : Nat} {v : Value} (hd : d < a.tmps.size) : (a.put (some d) v).tmps.getD t undef = if d = t then v else a.tmps.getD t undef := by
  rw [put_getD (fun x hx => by cases hx; exact hd)]
  by_cases h : d = t
  · rw [if_pos (by rw [h]), if_pos h]
  · rw [if_neg (fun h' => h (Option.some.inj h')), if_neg h]
theorem ex_value {a : Act} {o : Oper} {w w' : World} {s : Sem Value} {v : Value} (h : execOp a.eval o = (do pure (.value (← s)))) (hr : s.run P w = .ok v w') : (execOp a.eval o).run P w = .ok (.value v) w' := by
  rw [h]; simp [hr]
theorem ex_skip {a : Act} {o : Oper} {w w' : World} {s : Sem Unit} (h : execOp a.eval o = (do s; pure .skip)) (hr : s.run P w = .ok () w') : (execOp a.eval o).run P w = .ok .skip w' := by
  rw [h]; simp [hr]
theorem eval_tmp (a : Act) (t : Nat) : a.eval (.tmp t) = a.tmps.getD t undef := rfl

/-- A key that the iterator has handed out. -/
def seenK (es' : List MapEntry) (seen : Array Nat) (v : Value) : Prop := ∃ e ∈ es', e.key = v ∧ seen.contains e.born = true

/-- Between two rounds. -/
structure CI (P : Program) (ρ : Rho) (ts : List Nat) (bi bm br r : Nat) (es : Array MapEntry) (clk : Nat) (es' : List MapEntry) (l l2 : ML) (hc0 : H) (a0 : Act) (w0 : World) (seen : Array Nat) (a : Act) (w : World) : Prop where
  size : a.tmps.size = a0.tmps.size
  defers : a.defers = a0.defers
  tmps : ∀ t, t ∉ ts → a.tmps.getD t undef = a0.tmps.getD t undef
  hr : ∃ (hc : H) (lc : ML), HR P ρ hc w ∧ hc.next = hc0.next ∧ (∀ x, hc.at x = if x = r then some (.map lc 0) else hc0.at x) ∧ lc.ints ∧ (∀ x, x ∈ lc.ps ↔ (x ∈ l.ps ∧ seenK es' seen x.1) ∨ (x ∈ l2.ps ∧ ¬ seenK es' seen x.1))
  it : ∃ c0, clk ≤ c0 ∧ w.heap[bi]? = some (.mapIter (some bm) clk seen c0)
  src : w.heap[bm]? = some (.map es clk)
  frame : ∀ x, x < w0.heap.size → x ≠ bi → x ≠ br → w.heap[x]? = w0.heap[x]?
  hsz : w0.heap.size ≤ w.heap.size
  os : w.os = w0.os
  out : w.output = w0.output
  tape : w.tape = w0.tape

/-- The types that the loop meets. -/
structure CopyTy (P : Program) (s f off tm te sz : Nat) : Prop where
  fld : ∃ fs fd ti, P.underlying s = some (.struct fs) ∧ fs[f]? = some fd ∧ fd.offset = off ∧ P.info? fd.type = some ti ∧ ti.size ≠ 0
  map : ∃ kt j el, P.underlying tm = some (.map kt el) ∧ P.underlying kt = some (.int j)
  row : RowTy P te sz

/-- The loop's operations. -/
structure CopyOps (it p t0 t1 t2 t3 t4 tb tk u0 u1 u2 u3 u4 u5 s f tm te : Nat) (o0 o1 o2 o3 o4 o5 o6 o7 o8 o9 o10 o11 o12 o13 o14 : Oper) : Prop where
  h0 : o0.op = .next (.tmp it) false ∧ o0.dst = some t0 ∧ o0.guard = none
  h1 : o1.op = .extract (.tmp t0) 0 ∧ o1.dst = some t1 ∧ o1.guard = none
  h2 : o2.op = .entry (.tmp it) ∧ o2.dst = some t2 ∧ o2.guard = none
  h3 : o3.op = .extract (.tmp t2) 0 ∧ o3.dst = some t3 ∧ o3.guard = none
  h4 : o4.op = .extract (.tmp t2) 1 ∧ o4.dst = some t4 ∧ o4.guard = none
  h5 : o5.op = .alloc te ∧ o5.dst = some tb ∧ o5.guard = none
  h6 : o6.op = .assign (.tmp t3) ∧ o6.dst = some tk ∧ o6.guard = none
  h7 : o7.op = .store te (.tmp tb) (.tmp t4) ∧ o7.dst = none ∧ o7.guard = none
  h8 : o8.op = .move (.tmp p) ∧ o8.dst = some u0 ∧ o8.guard = none
  h9 : o9.op = .nilCheck (.tmp u0) ∧ o9.dst = some u1 ∧ o9.guard = none
  h10 : o10.op = .fieldAddr s (.tmp u1) f ∧ o10.dst = some u2 ∧ o10.guard = none
  h11 : o11.op = .load tm (.tmp u2) ∧ o11.dst = some u3 ∧ o11.guard = none
  h12 : o12.op = .move (.tmp tk) ∧ o12.dst = some u4 ∧ o12.guard = none
  h13 : o13.op = .load te (.tmp tb) ∧ o13.dst = some u5 ∧ o13.guard = none
  h14 : o14.op = .mapUpdate tm (.tmp u3) (.tmp u4) (.tmp u5) ∧ o14.dst = none ∧ o14.guard = none
  back : ∀ j o e, (#[o8, o9, o10, o11, o12, o13, o14])[j]? = some o → e ∈ o.after → Region.binds .any e = true → e.on < j
  e9 : ∃ e ∈ o9.after, Region.binds .any e = true ∧ e.on = 0
  e10 : ∃ e ∈ o10.after, Region.binds .any e = true ∧ e.on = 1
  e11 : ∃ e ∈ o11.after, Region.binds .any e = true ∧ e.on = 2
  e14 : ∀ j, j < 6 → ∃ e ∈ o14.after, Region.binds .any e = true ∧ e.on = j
  ne : [it, p, t0, t1, t2, t3, t4, tb, tk, u0, u1, u2, u3, u4, u5].Nodup

/-- The second region: the entry is read, and boxed. -/
theorem round_box {it p t0 t1 t2 t3 t4 tb tk u0 u1 u2 u3 u4 u5 s f tm te : Nat} {o0 o1 o2 o3 o4 o5 o6 o7 o8 o9 o10 o11 o12 o13 o14 : Oper} (O : CopyOps it p t0 t1 t2 t3 t4 tb tk u0 u1 u2 u3 u4 u5 s f tm te o0 o1 o2 o3 o4 o5 o6 o7 o8 o9 o10 o11 o12 o13 o14)
    {d : Bool} {id sz : Nat} {Q : GQ} {a : Act} {u : FrameMode} {w : World} {bi bm clk : Nat} {seen : Array Nat} {es : Array MapEntry} {e : MapEntry} {arr : Array Value} (T : RowTy P te sz)
    (hit : a.tmps.getD it undef = .pointer (some ⟨bi, 0, none⟩)) (hlt : ∀ t ∈ [t2, t3, t4, tb, tk], t < a.tmps.size)
    (hi : w.heap[bi]? = some (.mapIter (some bm) clk (seen.push e.born) clk)) (hb : w.heap[bm]? = some (.map es clk)) (he : e ∈ es.toList) (hn : (es.toList.map (·.born)).Nodup)
    (hv : e.val = .agg arr) (ha : arr.size = sz) (h1 : ∀ v ∈ arr.toList, v.oneCell' = true)
    (hQ : ∀ a' w', a'.tmps.size = a.tmps.size → a'.defers = a.defers → (∀ t, t ∉ [t2, t3, t4, tb, tk] → a'.tmps.getD t undef = a.tmps.getD t undef) → a'.tmps.getD tb undef = .pointer (some ⟨w.heap.size, 0, none⟩) → a'.tmps.getD tk undef = e.key →
      w'.heap[w.heap.size]? = some (.cells arr te (0, 0)) → w'.heap.size = w.heap.size + 1 → (∀ x, x < w.heap.size → w'.heap[x]? = w.heap[x]?) → w'.os = w.os → w'.output = w.output → w'.tape = w.tape → Q .normal a' u w') :
    GWp P d (.region id #[o2, o3, o4, o5, o6, o7] false) Q a u w := by
  obtain ⟨⟨a2, b2, c2⟩, ⟨a3, b3, c3⟩, ⟨a4, b4, c4⟩, ⟨a5, b5, c5⟩, ⟨a6, b6, c6⟩, ⟨a7, b7, c7⟩⟩ := And.intro O.h2 (And.intro O.h3 (And.intro O.h4 (And.intro O.h5 (And.intro O.h6 O.h7))))
  have ne := O.ne
  simp only [List.nodup_cons, List.mem_cons, not_or, List.not_mem_nil, not_false_eq_true, List.nodup_nil, and_true] at ne
  obtain ⟨⟨ip, i0, i1, i2, i3, i4, ib, ik, _⟩, _, _, _, ⟨n23, n24, n2b, n2k, _⟩, ⟨n34, n3b, n3k, _⟩, ⟨n4b, n4k, _⟩, ⟨nbk, _⟩, _⟩ := ne
  simp only [List.mem_cons, forall_eq_or_imp, List.not_mem_nil, false_implies, implies_true, and_true] at hlt
  obtain ⟨l2, l3, l4, lb, lk⟩ := hlt
  refine .region ?_
  rw [show List.range (#[o2, o3, o4, o5, o6, o7] : Array Oper).size = [0, 1, 2, 3, 4, 5] from rfl]
  refine .value (o := o2) (w' := w) (v := .tuple #[e.key, e.val]) rfl c2 (ex_value (s := Instr.entry (a.eval (.tmp it))) (by unfold execOp; rw [a2]) (by rw [eval_tmp, hit]; exact run_entry_at w bi bm clk seen es clk e hi hb he hn)) ?_
  rw [b2]
  generalize hA2 : a.put (some t2) (.tuple #[e.key, e.val]) = A2
  have s2 : A2.tmps.size = a.tmps.size := by rw [← hA2]; exact put_size _ _ _
  have g2 : ∀ t, A2.tmps.getD t undef = if t2 = t then .tuple #[e.key, e.val] else a.tmps.getD t undef := fun t => by rw [← hA2]; exact put_get l2
  have d2 : A2.defers = a.defers := by rw [← hA2]; exact put_defers _ _ _
  refine .value (o := o3) (w' := w) (v := e.key) rfl c3 (ex_value (s := Instr.extract (A2.eval (.tmp t2)) 0) (by unfold execOp; rw [a3]) (by rw [eval_tmp, g2, if_pos rfl]; rfl)) ?_
  rw [b3]
  generalize hA3 : A2.put (some t3) e.key = A3
  have s3 : A3.tmps.size = a.tmps.size := by rw [← hA3, put_size, s2]
  have g3 : ∀ t, A3.tmps.getD t undef = if t3 = t then e.key else A2.tmps.getD t undef := fun t => by rw [← hA3]; exact put_get (by omega)
  have d3 : A3.defers = a.defers := by rw [← hA3, put_defers, d2]
  refine .value (o := o4) (w' := w) (v := e.val) rfl c4 (ex_value (s := Instr.extract (A3.eval (.tmp t2)) 1) (by unfold execOp; rw [a4]) (by rw [eval_tmp, g3, if_neg (Ne.symm n23), g2, if_pos rfl]; rfl)) ?_
  rw [b4]
  generalize hA4 : A3.put (some t4) e.val = A4
  have s4 : A4.tmps.size = a.tmps.size := by rw [← hA4, put_size, s3]
  have g4 : ∀ t, A4.tmps.getD t undef = if t4 = t then e.val else A3.tmps.getD t undef := fun t => by rw [← hA4]; exact put_get (by omega)
  have d4 : A4.defers = a.defers := by rw [← hA4, put_defers, d3]
  obtain ⟨z, hz, hrun⟩ := box_new (P := P) T w
  refine .value (o := o5) rfl c5 (ex_value (s := Instr.alloc te true (.tuple #[])) (by unfold execOp; rw [a5]) hrun) ?_
  rw [b5]
  generalize hA5 : A4.put (some tb) (.pointer (some ⟨w.heap.size, 0, none⟩)) = A5
  have s5 : A5.tmps.size = a.tmps.size := by rw [← hA5, put_size, s4]
  have g5 : ∀ t, A5.tmps.getD t undef = if tb = t then .pointer (some ⟨w.heap.size, 0, none⟩) else A4.tmps.getD t undef := fun t => by rw [← hA5]; exact put_get (by omega)
  have d5 : A5.defers = a.defers := by rw [← hA5, put_defers, d4]
  have hkey : A5.tmps.getD t3 undef = e.key := by rw [g5, if_neg (Ne.symm n3b), g4, if_neg (Ne.symm n34), g3, if_pos rfl]
  refine .value (o := o6) (w' := pushed w (.cells z te)) (v := e.key) rfl c6 (by rw [show execOp A5.eval o6 = pure (.value (A5.eval (.tmp t3))) by unfold execOp; rw [a6], eval_tmp, hkey]; rfl) ?_
  rw [b6]
  generalize hA6 : A5.put (some tk) e.key = A6
  have s6 : A6.tmps.size = a.tmps.size := by rw [← hA6, put_size, s5]
  have g6 : ∀ t, A6.tmps.getD t undef = if tk = t then e.key else A5.tmps.getD t undef := fun t => by rw [← hA6]; exact put_get (by omega)
  have d6 : A6.defers = a.defers := by rw [← hA6, put_defers, d5]
  have hbox : A6.tmps.getD tb undef = .pointer (some ⟨w.heap.size, 0, none⟩) := by rw [g6, if_neg (Ne.symm nbk), g5, if_pos rfl]
  have hval : A6.tmps.getD t4 undef = .agg arr := by rw [g6, if_neg (Ne.symm n4k), g5, if_neg (Ne.symm n4b), g4, if_pos rfl, hv]
  obtain ⟨w', hst, k1, k2, k3, k4, k5, k6⟩ := box_store (P := P) T (w := pushed w (.cells z te)) (n := w.heap.size) (z := z) (arr := arr) (by simp) hz ha h1
  refine .skip (o := o7) (w' := w') rfl c7 (ex_skip (s := Instr.storeAt te (A6.eval (.tmp tb)) (A6.eval (.tmp t4))) (by unfold execOp; rw [a7]) (by rw [eval_tmp, eval_tmp, hbox, hval]; exact hst)) ?_
  rw [b7]
  show Q .normal A6 u w'
  refine hQ A6 w' s6 d6 (fun t ht => ?_) hbox (by rw [g6, if_pos rfl]) k1 (by simpa using k2) (fun x hx => ?_) k4 k5 k6
  · simp only [List.mem_cons, not_or, List.not_mem_nil, not_false_eq_true, and_true] at ht
    obtain ⟨q2, q3, q4, qb, qk⟩ := ht
    rw [g6, if_neg (Ne.symm qk), g5, if_neg (Ne.symm qb), g4, if_neg (Ne.symm q4), g3, if_neg (Ne.symm q3), g2, if_neg (Ne.symm q2)]
  · rw [k3 x (by omega)]
    simp [Array.getElem?_push, Nat.ne_of_lt hx]
end Go.Ev
end
section
/- Ev, soundness, part 59: one round of a loop that copies a map: the entry is laid into the other map. Conditions: none. -/
namespace Go.Ev
set_option linter.unusedVariables false
variable {P : Program} {rv : RV} {rh : H}

theorem load_scalar {w : World} {b o : Nat} {t : TypeId} {d : TypeDesc} {v : Value} (hc : w.cell? ⟨b, o, none⟩ = some v) (hu : P.underlying t = some d) (hd : d.isRow = false) : (Instr.loadAt t (.pointer (some ⟨b, o, none⟩))).run P w = .ok v w := by
  simp only [Instr.loadAt, Instr.sureAddr, Sem.run_bind, Sem.run_pure, Result.andThen_ok]
  unfold loadVar
  rw [Sem.run_bind, run_isAgg hu w, hd]
  simp [load, Sem.run, hc]

/-- The third region: the entry is laid into the other map. -/
theorem round_put (hmix : P.follows .mixedOrders = true) {it p t0 t1 t2 t3 t4 tb tk u0 u1 u2 u3 u4 u5 s f tm te : Nat} {o0 o1 o2 o3 o4 o5 o6 o7 o8 o9 o10 o11 o12 o13 o14 : Oper} (O : CopyOps it p t0 t1 t2 t3 t4 tb tk u0 u1 u2 u3 u4 u5 s f tm te o0 o1 o2 o3 o4 o5 o6 o7 o8 o9 o10 o11 o12 o13 o14)
    {d : Bool} {id off sz : Nat} (T : CopyTy P s f off tm te sz) {Q : GQ} {a : Act} {u : FrameMode} {w : World} {pb po br n : Nat} {key : Int} {arr : Array Value} {l : ML} {r base ex : Nat} {ρ : Rho} {h : H} {y : RV}
    (hp : a.tmps.getD p undef = .pointer (some ⟨pb, po, none⟩)) (hfld : w.cell? ⟨pb, po + off, none⟩ = some (.map (some br))) (hb : a.tmps.getD tb undef = .pointer (some ⟨n, 0, none⟩)) (hk : a.tmps.getD tk undef = .int .i64 key)
    (hbox : w.heap[n]? = some (.cells arr te (0, 0))) (ha : arr.size = sz) (hlt : ∀ t ∈ [u0, u1, u2, u3, u4, u5], t < a.tmps.size)
    (hr : HR P ρ h w) (ho : h.at r = some (.map l 0)) (hρ : ρ r = some (br, base, ex)) (hy : RR ρ y (.agg arr)) (hints : l.ints)
    (hQ : ∀ a' w' l', a'.tmps.size = a.tmps.size → a'.defers = a.defers → (∀ t, t ∉ [u0, u1, u2, u3, u4, u5] → a'.tmps.getD t undef = a.tmps.getD t undef) →
      (∀ k, mPut l (.i .i64 key) y k = k l') → w'.heap.size = w.heap.size → (∀ x, x ≠ br → w'.heap[x]? = w.heap[x]?) → (w'.os = w.os ∧ w'.output = w.output ∧ w'.tape = w.tape) → OR P ρ w'.heap (.map l' 0) br base ex → Q .normal a' u w') :
    GWp P d (.region id #[o8, o9, o10, o11, o12, o13, o14] true) Q a u w := by
  obtain ⟨⟨a8, b8, c8⟩, ⟨a9, b9, c9⟩, ⟨a10, b10, c10⟩, ⟨a11, b11, c11⟩, ⟨a12, b12, c12⟩, ⟨a13, b13, c13⟩, ⟨a14, b14, c14⟩⟩ := And.intro O.h8 (And.intro O.h9 (And.intro O.h10 (And.intro O.h11 (And.intro O.h12 (And.intro O.h13 O.h14)))))
  have ne := O.ne
  simp only [List.nodup_cons, List.mem_cons, not_or, List.not_mem_nil, not_false_eq_true, List.nodup_nil, and_true] at ne
  obtain ⟨_, ⟨_, _, _, _, _, _, _, p0, p1, p2, p3, p4, p5⟩, _, _, _, _, _, ⟨_, b0, b1, b2, b3, b4, b5⟩, ⟨k0, k1, k2, k3, k4, k5⟩, ⟨n01, n02, n03, n04, n05⟩, ⟨n12, n13, n14, n15⟩, ⟨n23, n24, n25⟩, ⟨n34, n35⟩, n45⟩ := ne
  simp only [List.mem_cons, forall_eq_or_imp, List.not_mem_nil, false_implies, implies_true, and_true] at hlt
  obtain ⟨l0, l1, l2, l3, l4, l5⟩ := hlt
  obtain ⟨fs, fd, ti, hs, hf, hoff, hti, hz⟩ := T.fld
  obtain ⟨kt, j, el, htm, hkt⟩ := T.map
  have six : ∀ j, j < 6 → j = 0 ∨ j = 1 ∨ j = 2 ∨ j = 3 ∨ j = 4 ∨ j = 5 := fun j h => by omega
  refine draw_readers hmix (n := 6) rfl (fun j => [.pointer (some ⟨pb, po, none⟩), .pointer (some ⟨pb, po, none⟩), .pointer (some ⟨pb, po + off, none⟩), .map (some br), .int .i64 key, .agg arr].getD j undef) (fun j => [u0, u1, u2, u3, u4, u5].getD j 0) O.back ?_ ?_ ?_ ?_ ⟨o14, rfl, c14, O.e14, ?_⟩
  · intro j o hj ho
    rcases six j hj with rfl | rfl | rfl | rfl | rfl | rfl <;> cases ho
    · exact ⟨b8, c8⟩
    · exact ⟨b9, c9⟩
    · exact ⟨b10, c10⟩
    · exact ⟨b11, c11⟩
    · exact ⟨b12, c12⟩
    · exact ⟨b13, c13⟩
  · intro i j hi hj hij
    have e : ∀ i, [u0, u1, u2, u3, u4, u5].getD i 0 = ([u0, u1, u2, u3, u4, u5][i]?).getD 0 := fun i => List.getD_eq_getElem?_getD ..
    have hnd : ([u0, u1, u2, u3, u4, u5] : List Nat).Nodup := by
      simp only [List.nodup_cons, List.mem_cons, not_or, List.not_mem_nil, not_false_eq_true, List.nodup_nil, and_true]
      exact ⟨⟨n01, n02, n03, n04, n05⟩, ⟨n12, n13, n14, n15⟩, ⟨n23, n24, n25⟩, ⟨n34, n35⟩, n45⟩
    have hij' : ([u0, u1, u2, u3, u4, u5].getD i 0) = ([u0, u1, u2, u3, u4, u5].getD j 0) := hij
    rw [e, e, List.getElem?_eq_getElem (by simpa using hi), List.getElem?_eq_getElem (by simpa using hj)] at hij'
    have hpw := List.pairwise_iff_getElem.1 hnd
    rcases Nat.lt_trichotomy i j with h | h | h
    · exact absurd hij' (hpw i j (by simpa using hi) (by simpa using hj) h)
    · exact h
    · exact absurd hij'.symm (hpw j i (by simpa using hj) (by simpa using hi) h)
  · intro j hj
    rcases six j hj with rfl | rfl | rfl | rfl | rfl | rfl <;> assumption
  · intro j o hj ho b hrest hdone
    have other : ∀ t, t ≠ u0 → t ≠ u1 → t ≠ u2 → t ≠ u3 → t ≠ u4 → t ≠ u5 → b.tmps.getD t undef = a.tmps.getD t undef := fun t q0 q1 q2 q3 q4 q5 => hrest t fun i hi => by
      rcases six i hi with rfl | rfl | rfl | rfl | rfl | rfl
      · exact Ne.symm q0
      · exact Ne.symm q1
      · exact Ne.symm q2
      · exact Ne.symm q3
      · exact Ne.symm q4
      · exact Ne.symm q5
    rcases six j hj with rfl | rfl | rfl | rfl | rfl | rfl
    · obtain rfl : o8 = o := Option.some.inj ho
      rw [show execOp b.eval o8 = pure (.value (b.eval (.tmp p))) by unfold execOp; rw [a8], eval_tmp, other p p0 p1 p2 p3 p4 p5, hp]; rfl
    · obtain rfl : o9 = o := Option.some.inj ho
      obtain ⟨e, he, hbe, hon⟩ := O.e9
      have hv : b.tmps.getD u0 undef = .pointer (some ⟨pb, po, none⟩) := by have := hdone e he hbe (by omega); rw [hon] at this; exact this
      have hex : execOp b.eval o9 = (match b.eval (.tmp u0) with
        | .pointer none | .nilIface | .nilFunc => runtimePanic .nilDeref
        | .func (.method name) first captured =>
          match (first[0]? : Option Value) with
          | some .nilIface => runtimePanic .nilDeref
          | some (.iface t w) => do
            if (← nilAhead ((← program).types.size + Made.depth) t w name) != some false then
              unsupported (.noEntry "op/nilCheck.the method's receiver behind this interface value is a nil pointer, or cannot be seen to be none, and the arguments act or may panic (ledger 612)")
            pure (.value (.func (.method name) first captured))
          | _ => pure (.value (.func (.method name) first captured))
        | x => pure (.value x) : Sem Next) := by unfold execOp; rw [a9]; rfl
      rw [hex, eval_tmp, hv]; rfl
    · obtain rfl : o10 = o := Option.some.inj ho
      obtain ⟨e, he, hbe, hon⟩ := O.e10
      have hv : b.tmps.getD u1 undef = .pointer (some ⟨pb, po, none⟩) := by have := hdone e he hbe (by omega); rw [hon] at this; exact this
      refine ex_value (s := Instr.fieldAt s (b.eval (.tmp u1)) f) (by unfold execOp; rw [a10]) ?_
      rw [eval_tmp, hv]
      unfold Instr.fieldAt
      rw [Sem.run_bind, run_underlying hs]
      simp only [Result.andThen_ok, hf, Instr.sureAddr, Sem.run_bind, Sem.run_pure, fieldPlace, run_sizeOf hti]
      simp [hz, Addr.add_mid, hoff]
    · obtain rfl : o11 = o := Option.some.inj ho
      obtain ⟨e, he, hbe, hon⟩ := O.e11
      have hv : b.tmps.getD u2 undef = .pointer (some ⟨pb, po + off, none⟩) := by have := hdone e he hbe (by omega); rw [hon] at this; exact this
      refine ex_value (s := Instr.loadAt tm (b.eval (.tmp u2))) (by unfold execOp; rw [a11]) ?_
      rw [eval_tmp, hv]
      exact load_scalar (w := { w with drawn := w.drawn + 1 }) hfld htm rfl
    · obtain rfl : o12 = o := Option.some.inj ho
      rw [show execOp b.eval o12 = pure (.value (b.eval (.tmp tk))) by unfold execOp; rw [a12], eval_tmp, other tk k0 k1 k2 k3 k4 k5, hk]; rfl
    · obtain rfl : o13 = o := Option.some.inj ho
      refine ex_value (s := Instr.loadAt te (b.eval (.tmp tb))) (by unfold execOp; rw [a13]) ?_
      rw [eval_tmp, other tb b0 b1 b2 b3 b4 b5, hb]
      exact box_load T.row (w := { w with drawn := w.drawn + 1 }) hbox ha
  · intro b hbs hbd hrest hall
    have hv3 : b.tmps.getD u3 undef = .map (some br) := hall 3 (by omega)
    have hv4 : b.tmps.getD u4 undef = .int .i64 key := hall 4 (by omega)
    have hv5 : b.tmps.getD u5 undef = .agg arr := hall 5 (by omega)
    obtain ⟨l'', hput, _⟩ := mPut_gives key y l hints
    obtain ⟨l', w', e1, hrun, hsz, hoth, hos, hor⟩ := store_map (P := P) (rv := .u) (rh := .mk (.node .nil (some (.map l'' 0)) .nil) 0) (t := tm) (k := fun l' => .ok .u (.mk (.node .nil (some (.map l' 0)) .nil) 0)) (hr.drew (w.drawn + 1)) htm hkt
      (show KeyOf (.int j) (.i .i64 key) from .inl ⟨j, rfl, _, _, rfl⟩) hy ho hρ (by rw [hput])
    have hl : l' = l'' := by injection e1 with _ h1; injection h1 with h2 _; injection h2 with _ h3 _; injection h3 with h4; injection h4
    subst hl
    refine ⟨w', ex_skip (s := Instr.mapUpdate tm (b.eval (.tmp u3)) (b.eval (.tmp u4)) (b.eval (.tmp u5))) (by unfold execOp; rw [a14]) (by rw [eval_tmp, eval_tmp, eval_tmp, hv3, hv4, hv5]; exact hrun), ?_⟩
    rw [b14]
    refine hQ b w' l' hbs hbd (fun t ht => hrest t fun i hi => ?_) hput hsz hoth hos hor
    simp only [List.mem_cons, not_or, List.not_mem_nil, not_false_eq_true, and_true] at ht
    obtain ⟨q0, q1, q2, q3, q4, q5⟩ := ht
    rcases six i hi with rfl | rfl | rfl | rfl | rfl | rfl
    · exact Ne.symm q0
    · exact Ne.symm q1
    · exact Ne.symm q2
    · exact Ne.symm q3
    · exact Ne.symm q4
    · exact Ne.symm q5
end Go.Ev
end
section
/- Ev, soundness, part 60: a loop that copies a map into another one does what the evaluator says. Conditions: none. -/
namespace Go.Ev
set_option linter.unusedVariables false
variable {P : Program} {rv : RV} {rh : H}

/-- The loop's code. -/
abbrev copyBody (id id2 r1 r2 r3 t1 : Nat) (o0 o1 o2 o3 o4 o5 o6 o7 o8 o9 o10 o11 o12 o13 o14 : Oper) : Code :=
  .seq (.region r1 #[o0, o1] false) (.seq (.cond (.tmp t1) .skip (.exit id)) (.block id2 (.seq (.region r2 #[o2, o3, o4, o5, o6, o7] false) (.region r3 #[o8, o9, o10, o11, o12, o13, o14] true))))

/-- What stays throughout the loop. -/
structure CX (P : Program) (ρ : Rho) (ts : List Nat) (it p pb po off sz bi bm br r m b : Nat) (es : Array MapEntry) (clk : Nat) (es' : List MapEntry) (l l2 : ML) (hc0 : H) (a0 : Act) : Prop where
  hit : a0.tmps.getD it undef = .pointer (some ⟨bi, 0, none⟩)
  hp : ∃ base ex c el exa fz hd, a0.tmps.getD p undef = .pointer (some ⟨pb, base + po, none⟩) ∧ ρ hd = some (pb, base, ex) ∧ hc0.at hd = some (.cells c el exa fz) ∧ hd ≠ r ∧ c.get (po + off) = some (.v (.map (some r)))
  hr : ∃ base ex, ρ r = some (br, base, ex)
  hb : ∃ base ex, ρ b = some (bi, base, ex)
  hm : ∃ base ex, ρ m = some (bm, base, ex)
  bm_br : bm ≠ br
  bi_br : bi ≠ br
  bi_bm : bi ≠ bm
  own : ∀ x o y, hc0.at x = some o → ρ x = some y → y.1 ≠ bi
  perm : es'.Perm es.toList
  mr : MR ρ l es'
  keys : (es'.map (·.key)).Nodup
  born : ∀ e ∈ es', e.born < clk
  borns : (es'.map (·.born)).Nodup
  ints : l.ints
  vals : ∀ x ∈ l.ps, ∃ c, x.2 = .a c ∧ c.size = sz
  noMit : ∀ c j, hc0.at c = some (.miter j) → j ≠ r

theorem fst_one {α β : Type} {l : List (α × β)} (h : (l.map (·.1)).Nodup) {x y : α × β} (h1 : x ∈ l) (h2 : y ∈ l) (hk : x.1 = y.1) : x = y := by
  induction l with
  | nil => cases h1
  | cons z l ih =>
    simp only [List.map_cons, List.nodup_cons, List.mem_map] at h
    cases h1 with
    | head =>
      cases h2 with
      | head => rfl
      | tail _ h2 => exact absurd ⟨y, h2, hk.symm⟩ h.1
    | tail _ h1 =>
      cases h2 with
      | head => exact absurd ⟨x, h1, hk⟩ h.1
      | tail _ h2 => exact ih h.2 h1 h2

theorem round_ok (hmix : P.follows .mixedOrders = true) {it p t0 t1 t2 t3 t4 tb tk u0 u1 u2 u3 u4 u5 s f tm te : Nat} {o0 o1 o2 o3 o4 o5 o6 o7 o8 o9 o10 o11 o12 o13 o14 : Oper} (O : CopyOps it p t0 t1 t2 t3 t4 tb tk u0 u1 u2 u3 u4 u5 s f tm te o0 o1 o2 o3 o4 o5 o6 o7 o8 o9 o10 o11 o12 o13 o14)
    {d : Bool} {id id2 r1 r2 r3 off sz : Nat} (T : CopyTy P s f off tm te sz) {ρ : Rho} {pb po bi bm br r m b clk : Nat} {es : Array MapEntry} {es' : List MapEntry} {l l2 : ML} {hc0 : H} {a0 : Act} {w0 : World}
    (X : CX P ρ [t0, t1, t2, t3, t4, tb, tk, u0, u1, u2, u3, u4, u5] it p pb po off sz bi bm br r m b es clk es' l l2 hc0 a0) (hlt : ∀ t ∈ [t0, t1, t2, t3, t4, tb, tk, u0, u1, u2, u3, u4, u5], t < a0.tmps.size)
    {Q : GQ} {u : FrameMode} : ∀ (n : Nat) (seen : Array Nat) (a : Act) (w : World), (leftOf es seen).size = n → CI P ρ [t0, t1, t2, t3, t4, tb, tk, u0, u1, u2, u3, u4, u5] bi bm br r es clk es' l l2 hc0 a0 w0 seen a w →
      (∀ seen a w, (leftOf es seen).size = 0 → CI P ρ [t0, t1, t2, t3, t4, tb, tk, u0, u1, u2, u3, u4, u5] bi bm br r es clk es' l l2 hc0 a0 w0 seen a w → Q (.exit id) a u w) →
      GWp P d (copyBody id id2 r1 r2 r3 t1 o0 o1 o2 o3 o4 o5 o6 o7 o8 o9 o10 o11 o12 o13 o14) (thenG (againG P d (copyBody id id2 r1 r2 r3 t1 o0 o1 o2 o3 o4 o5 o6 o7 o8 o9 o10 o11 o12 o13 o14) Q) Q) a u w := by
  have ne := O.ne
  simp only [List.nodup_cons, List.mem_cons, not_or, List.not_mem_nil, not_false_eq_true, List.nodup_nil, and_true] at ne
  obtain ⟨⟨ip, i0, i1, i2, i3, i4, ib, ik, iu0, iu1, iu2, iu3, iu4, iu5⟩, ⟨p0, p1, p2, p3, p4, pB, pk, pu0, pu1, pu2, pu3, pu4, pu5⟩, ⟨n01, _⟩, _, _, _, _, ⟨nbk, nb0, nb1, nb2, nb3, nb4, nb5⟩, _⟩ := ne
  obtain ⟨⟨a0', b0, c0⟩, ⟨a1, b1, c1⟩⟩ := And.intro O.h0 O.h1
  have lt0 : t0 < a0.tmps.size := hlt _ (by simp)
  have lt1 : t1 < a0.tmps.size := hlt _ (by simp)
  intro n
  induction n using Nat.strongRecOn with
  | _ n ih =>
  intro seen a w hn I hfin
  obtain ⟨c0', hcc, hiter⟩ := I.it
  have hit : a.tmps.getD it undef = .pointer (some ⟨bi, 0, none⟩) := by rw [I.tmps it (by simp [*])]; exact X.hit
  have hold : ∀ x ∈ es.toList, x.born < clk := fun x hx => X.born x (X.perm.mem_iff.2 hx)
  have hbn : (es.toList.map (·.born)).Nodup := (X.perm.map _).nodup_iff.1 X.borns
  have hs0 : t0 < a.tmps.size := by rw [I.size]; exact lt0
  have hs1 : ∀ v, t1 < (a.put (some t0) v).tmps.size := fun v => by rw [put_size, I.size]; exact lt1
  refine .seq (.region ?_)
  rw [show List.range (#[o0, o1] : Array Oper).size = [0, 1] from rfl]
  rcases run_next_at (P := P) w o0.type bi bm clk c0' seen es clk hiter I.src hold hcc with ⟨hnone, hrun⟩ | ⟨e, he, w1, hw1, hrun⟩
  · -- nothing is left
    refine .value (o := o0) rfl c0 (ex_value (s := Instr.next (a.eval (.tmp it)) false o0.type) (by unfold execOp; rw [a0']) (by rw [eval_tmp, hit]; exact hrun)) ?_
    rw [b0]
    have g0 : (a.put (some t0) (.tuple #[.bool false])).tmps.getD t0 undef = .tuple #[.bool false] := by rw [put_get hs0, if_pos rfl]
    refine .value (o := o1) (w' := w) (v := .bool false) rfl c1 (ex_value (s := Instr.extract ((a.put (some t0) (.tuple #[.bool false])).eval (.tmp t0)) 0) (by unfold execOp; rw [a1]) (by rw [eval_tmp, g0]; rfl)) ?_
    rw [b1]
    refine .seq (.cond (t := false) (by rw [eval_tmp, put_get (hs1 _), if_pos rfl]) (.exit ?_))
    refine hfin seen _ w hnone ⟨by rw [put_size, put_size]; exact I.size, by rw [put_defers, put_defers]; exact I.defers, fun t ht => ?_, I.hr, I.it, I.src, I.frame, I.hsz, I.os, I.out, I.tape⟩
    simp only [List.mem_cons, not_or] at ht
    rw [put_get (hs1 _), if_neg (Ne.symm ht.2.1), put_get hs0, if_neg (Ne.symm ht.1)]
    exact I.tmps t (by simp [ht])
  · -- an entry
    obtain ⟨hee, hse⟩ := mem_left he
    have hee' : e ∈ es' := X.perm.mem_iff.2 hee
    refine .value (o := o0) rfl c0 (ex_value (s := Instr.next (a.eval (.tmp it)) false o0.type) (by unfold execOp; rw [a0']) (by rw [eval_tmp, hit]; exact hrun)) ?_
    rw [b0]
    generalize hA1 : a.put (some t0) (.tuple #[.bool true, e.key, e.val]) = A1
    have s1 : A1.tmps.size = a.tmps.size := by rw [← hA1]; exact put_size _ _ _
    have d1 : A1.defers = a.defers := by rw [← hA1]; exact put_defers _ _ _
    have g1 : ∀ t, A1.tmps.getD t undef = if t0 = t then .tuple #[.bool true, e.key, e.val] else a.tmps.getD t undef := fun t => by rw [← hA1]; exact put_get hs0
    refine .value (o := o1) (w' := Go.ChangeMaps.setBlock w1 bi (.mapIter (some bm) clk (seen.push e.born) clk)) (v := .bool true) rfl c1 (ex_value (s := Instr.extract (A1.eval (.tmp t0)) 0) (by unfold execOp; rw [a1]) (by rw [eval_tmp, g1, if_pos rfl]; rfl)) ?_
    rw [b1]
    generalize hA2 : A1.put (some t1) (.bool true) = A2
    have s2 : A2.tmps.size = a0.tmps.size := by rw [← hA2, put_size, s1, I.size]
    have d2 : A2.defers = a0.defers := by rw [← hA2, put_defers, d1, I.defers]
    have g2 : ∀ t, A2.tmps.getD t undef = if t1 = t then .bool true else A1.tmps.getD t undef := fun t => by rw [← hA2]; exact put_get (by rw [s1, I.size]; exact lt1)
    have rest2 : ∀ t, t ∉ [t0, t1, t2, t3, t4, tb, tk, u0, u1, u2, u3, u4, u5] → A2.tmps.getD t undef = a0.tmps.getD t undef := fun t ht => by
      have ht' := ht
      simp only [List.mem_cons, not_or] at ht'
      rw [g2, if_neg (Ne.symm ht'.2.1), g1, if_neg (Ne.symm ht'.1)]
      exact I.tmps t ht
    generalize hw2 : Go.ChangeMaps.setBlock w1 bi (.mapIter (some bm) clk (seen.push e.born) clk) = w2
    have hbi : bi < w.heap.size := (Array.getElem?_eq_some_iff.1 hiter).1
    have k0 : w2.heap.size = w.heap.size ∧ w2.heap[bi]? = some (.mapIter (some bm) clk (seen.push e.born) clk) ∧ (∀ x, x ≠ bi → w2.heap[x]? = w.heap[x]?) ∧ w2.os = w.os ∧ w2.output = w.output ∧ w2.tape = w.tape := by
      rw [← hw2]
      rcases hw1 with rfl | rfl
      · exact ⟨by simp [Go.ChangeMaps.setBlock], by simp [Go.ChangeMaps.setBlock, hbi], fun x hx => by simp [Go.ChangeMaps.setBlock, Ne.symm hx], rfl, rfl, rfl⟩
      · exact ⟨by simp [Go.ChangeMaps.setBlock], by simp [Go.ChangeMaps.setBlock, hbi], fun x hx => by simp [Go.ChangeMaps.setBlock, Ne.symm hx]; rfl, rfl, rfl, rfl⟩
    obtain ⟨k1, k2, k3, k4, k5, k6⟩ := k0
    refine .seq (.cond (t := true) (by rw [eval_tmp, g2, if_pos rfl]) (.skip ?_))
    show GWp P d _ _ A2 u w2
    refine .block (.seq ?_)
    obtain ⟨x, hx, hxk, hxv⟩ := X.mr.all2.right e hee'
    obtain ⟨cv, hcv, hcs⟩ := X.vals x hx
    rw [hcv] at hxv
    obtain ⟨arr, hval, hgood, hcells⟩ := hxv.aggr
    have hasz : arr.size = sz := by
      have h1 := VRs.length hcells
      rw [List.length_map, ← cv.size_eq hgood, hcs] at h1
      simpa using h1.symm
    refine round_box (P := P) O (Q := thenG _ _) T.row (bi := bi) (bm := bm) (clk := clk) (seen := seen) (es := es) (e := e) (arr := arr) (by rw [rest2 it (by simp [*])]; exact X.hit) (fun t ht => ?_) k2 (by rw [k3 bm (Ne.symm X.bi_bm)]; exact I.src) hee hbn hval hasz (fun v hv => CRs.one hcells v hv) ?_
    · rw [s2]; refine hlt t ?_
      simp only [List.mem_cons, List.not_mem_nil, or_false] at ht ⊢
      rcases ht with h | h | h | h | h <;> simp [h]
    intro a3 w3 q1 q2 q3 q4 q5 q6 q7 q8 q9 q10 q11
    show GWp P d _ _ a3 u w3
    have rest3 : ∀ t, t ∉ [t0, t1, t2, t3, t4, tb, tk, u0, u1, u2, u3, u4, u5] → a3.tmps.getD t undef = a0.tmps.getD t undef := fun t ht => by
      have ht' := ht
      simp only [List.mem_cons, not_or, List.not_mem_nil, not_false_eq_true, and_true] at ht'
      rw [q3 t (by simp [ht']), rest2 t ht]
    obtain ⟨hc, lc, hrc, hcn, hca, hci, hcp⟩ := I.hr
    have hrc3 : HR P ρ hc w3 := by
      refine hrc.grow (by omega) fun blk hblk hor => ?_
      have hne : blk ≠ bi := by
        rcases hor with ⟨z, y, h1, h2, o, h3⟩ | h
        · rw [hca] at h3
          by_cases hz : z = r
          · obtain ⟨bb, ee, h4⟩ := X.hr
            rw [hz, h4] at h1; cases h1
            intro h; subst h; exact X.bi_br h2.symm
          · rw [if_neg hz] at h3
            rw [← h2]; exact X.own z o y h3 h1
        · obtain ⟨bb, ee, h4⟩ := X.hb
          exact fun h5 => hrc.free.2 b _ h4 (by rw [h5] at h; exact h)
      rw [q8 blk (by omega), k3 blk hne]
    obtain ⟨base, ex, c, el, exa, fz, hd, hpa, hpρ, hpo, hpr, hpc⟩ := X.hp
    obtain ⟨rb, rx, hrρ⟩ := X.hr
    have hhd : hc.at hd = some (.cells c el exa fz) := by rw [hca, if_neg hpr]; exact hpo
    have hcell : w3.cell? ⟨pb, base + po + off, none⟩ = some (.map (some br)) := by
      obtain ⟨b', base', ex', z1, hor⟩ := hrc3.obj _ _ hhd
      rw [hpρ] at z1; cases z1
      obtain ⟨hg, arr', lo, hi, z2, z3, _⟩ := hor
      rw [Cs.get_eq hg] at hpc
      obtain ⟨v', z4, z5⟩ := z3 _ _ hpc
      have : v' = .map (some br) := by
        cases z5 with
        | m _ b'' base'' ex'' h6 => rw [hrρ] at h6; cases h6; rfl
      subst this
      simp [World.cell?, z2, Nat.add_assoc, z4]
    obtain ⟨key, hkey⟩ : ∃ key, e.key = .int .i64 key := by
      have : ∀ (l : ML), l.ints → ∀ x ∈ l.ps, ∃ n, x.1 = .int .i64 n := by
        intro l
        induction l with
        | nil => intro _ x hx; cases hx
        | cons k v t iht =>
          rintro ⟨⟨n, rfl⟩, ht⟩ x hx
          cases hx with
          | head => exact ⟨n, rfl⟩
          | tail _ hx => exact iht ht x hx
      obtain ⟨n, h1⟩ := this l X.ints x hx
      exact ⟨n, by rw [← hxk]; exact h1⟩
    refine round_put (P := P) hmix O T (pb := pb) (po := base + po) (br := br) (n := w2.heap.size) (key := key) (arr := arr) (l := lc) (r := r) (base := rb) (ex := rx) (ρ := ρ) (h := hc) (y := .a cv) (by rw [rest3 p (by simp [*])]; exact hpa) hcell q4 (by rw [q5]; exact hkey) q6 hasz (fun t ht => ?_) hrc3 (by rw [hca, if_pos rfl]) hrρ (by rw [← hval]; exact hxv) hci ?_
    · rw [q1, s2]; refine hlt t ?_
      simp only [List.mem_cons, List.not_mem_nil, or_false] at ht ⊢
      rcases ht with h | h | h | h | h | h <;> simp [h]
    intro a4 w4 l4 y1 y2 y3 y4 y5 y6 y7 y8
    show againG P d _ Q a4 u w4
    refine .step (ih (leftOf es (seen.push e.born)).size (by rw [← hn]; exact left_shrinks es seen e he) (seen.push e.born) a4 w4 rfl ?_ hfin)
    -- the next round's beginning
    have hlc : lc.keys.Nodup := by
      obtain ⟨b', base', ex', z1, hor⟩ := hrc.obj r (.map lc 0) (by rw [hca, if_pos rfl])
      obtain ⟨_, _, es2, _, _, z2, z3, _⟩ := hor
      rw [z2.keys]; exact z3
    obtain ⟨l4', z1, z2, z3, z4⟩ := mPut_gives key (.a cv) lc hci
    have hl4 : l4' = l4 := by
      have h1 : (RT.ok .u (.mk (.node .nil (some (.map l4' 0)) .nil) 0) : RT) = .ok .u (.mk (.node .nil (some (.map l4 0)) .nil) 0) := by
        rw [← z1 (fun l => .ok .u (.mk (.node .nil (some (.map l 0)) .nil) 0)), ← y4 (fun l => .ok .u (.mk (.node .nil (some (.map l 0)) .nil) 0))]
      injection h1 with _ h1; injection h1 with h2 _; injection h2 with _ h3 _; injection h3 with h4; injection h4
    subst hl4
    obtain ⟨h4, _, hn4, ha4⟩ := setK_gives hc r (.map l4' 0)
    have hseen : ∀ v, seenK es' (seen.push e.born) v ↔ seenK es' seen v ∨ v = e.key := fun v => by
      constructor
      · rintro ⟨e', h1, h2, h3⟩
        rw [contains_push, Bool.or_eq_true, beq_iff_eq] at h3
        rcases h3 with h3 | h3
        · exact .inl ⟨e', h1, h2, h3⟩
        · exact .inr (by rw [← h2, born_inj X.borns h1 hee' h3])
      · rintro (⟨e', h1, h2, h3⟩ | h1)
        · exact ⟨e', h1, h2, by rw [contains_push, h3]; rfl⟩
        · exact ⟨e, hee', h1.symm, by rw [contains_push]; simp⟩
    refine ⟨by rw [y1, q1, s2], by rw [y2, q2, d2], fun t ht => ?_, ⟨h4, l4', ?_, by rw [hn4, hcn], fun z => ?_, z2, fun z => ?_⟩, ⟨clk, Nat.le_refl _, ?_⟩, ?_, fun z h1 h2 h3 => ?_, ?_, ?_, ?_, ?_⟩
    · have ht' := ht
      simp only [List.mem_cons, not_or, List.not_mem_nil, not_false_eq_true, and_true] at ht'
      rw [y3 t (by simp [ht']), rest3 t ht]
    · refine (set_sound (w' := w4) hrc3 (by rw [hca, if_pos rfl] : hc.at r = some (.map lc 0)) hrρ hn4 ha4 y5 y6 y7 y8 (fun m' j x y hm hj => ?_) (fun c _ hc' => ?_) (fun j hj => by cases hj)).1
      · exfalso
        have hm' : hc0.at m' = some (.miter j) := by
          rw [hca] at hm
          by_cases hz : m' = r
          · rw [if_pos hz] at hm; cases hm
          · rwa [if_neg hz] at hm
        obtain ⟨l5, h5⟩ := hrc3.mit m' j hm
        have := hrc3.inj j r _ _ _ _ h5 (by rw [hca, if_pos rfl] : hc.at r = some (.map lc 0)) hj hrρ rfl
        exact X.noMit m' j hm' this
      · exfalso
        have hm' : hc0.at c = some (.miter r) := by
          rw [hca] at hc'
          by_cases hz : c = r
          · rw [if_pos hz] at hc'; cases hc'
          · rwa [if_neg hz] at hc'
        exact X.noMit c r hm' rfl
    · rw [ha4]
      by_cases hz : z = r
      · rw [if_pos hz, if_pos hz]
      · rw [if_neg hz, if_neg hz, hca, if_neg hz]
    · rw [(z4 hlc).2, hcp, hseen]
      have hx' : (Value.int .i64 key, RV.a cv) = x := by
        rcases x with ⟨x1, x2⟩
        simp only at hxk hcv
        rw [hxk, hkey, hcv]
      rw [hx']
      have hxk1 : x.1 = .int .i64 key := by rw [hxk, hkey]
      constructor
      · rintro (h | ⟨⟨h, h'⟩ | ⟨h, h'⟩, h''⟩)
        · exact .inl ⟨by rw [h]; exact hx, .inr (by rw [h]; exact hxk)⟩
        · exact .inl ⟨h, .inl h'⟩
        · exact .inr ⟨h, fun hs => hs.elim h' fun hs => h'' (by rw [hs, hkey])⟩
      · rintro (⟨h, h' | h'⟩ | ⟨h, h'⟩)
        · by_cases hz : z.1 = .int .i64 key
          · refine .inl ?_
            have hnd : (l.ps.map (·.1)).Nodup := by rw [← ML.keys_ps, X.mr.keys]; exact X.keys
            exact fst_one hnd h hx (by rw [hz, hxk1])
          · exact .inr ⟨.inl ⟨h, h'⟩, hz⟩
        · refine .inl ?_
          have hnd : (l.ps.map (·.1)).Nodup := by rw [← ML.keys_ps, X.mr.keys]; exact X.keys
          exact fst_one hnd h hx (by rw [h', hxk])
        · exact .inr ⟨.inr ⟨h, fun hs => h' (.inl hs)⟩, fun hs => h' (.inr (by rw [hs, hkey]))⟩
    · rw [y6 bi X.bi_br, q8 bi (by omega), k2]
    · have : bm < w2.heap.size := by rw [k1]; exact (Array.getElem?_eq_some_iff.1 I.src).1
      rw [y6 bm X.bm_br, q8 bm this, k3 bm (Ne.symm X.bi_bm)]; exact I.src
    · have := I.hsz
      rw [y6 z h3, q8 z (by omega), k3 z h2]; exact I.frame z h1 h2 h3
    · have := I.hsz; omega
    · rw [y7.1, q9, k4, I.os]
    · rw [y7.2.1, q10, k5, I.out]
    · rw [y7.2.2, q11, k6, I.tape]
end Go.Ev
end

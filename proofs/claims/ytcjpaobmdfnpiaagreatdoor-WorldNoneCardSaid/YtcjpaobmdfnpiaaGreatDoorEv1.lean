/- An evaluator of programs by terms that the kernel reduces, and the laws that it tells the truth. Conditions: none. -/
import Derived.Deep.MidRow
import Derived.Test.YtcjpaobmdfnpiaaGreatDoorEv0
set_option linter.all false
section
/- Ev, part E: what the evaluator answers by itself (functions without a body; three of the library's), and the calls. Conditions: none. -/
namespace Go.Ev
set_option linter.unusedVariables false

abbrev XT := Cx → List RV → H → KV → RT
noncomputable def eX : RT := .err "a function that the evaluator does not answer, or not with these arguments"
noncomputable def xErr : XT := fun _ _ _ _ => eX
noncomputable def one1 (l : List RV) (k : RV → RT) : RT := List.rec (motive := fun _ => RT) (.err "one argument") (fun x _ _ => k x) l
noncomputable def place (v : Ce) (k : Nat → Nat → RT) : RT := onPtr v (.err "nil pointer") k
noncomputable def cell (b o : Nat) (h : H) (k : Ce → RT) : RT := h.getK b fun ob => oCells ob fun c _ _ _ => onSome (c.get o) "no such cell" k
noncomputable def args3 (l : List RV) (k : Ce → Ce → Ce → RT) : RT := List.rec (motive := fun _ => RT) (.err "three arguments") (fun x t _ => onS x fun v => args2 t fun w y => k v w y) l
noncomputable def xAdd (kd : IntKind) : XT := fun _ l h k => args2 l fun p d => place p fun b o => cell b o h fun v => onInt v fun j a => onInt d fun i c => ifB (andB (kindEq j kd) (kindEq i kd)) (intK (wrapF kd (addF a c)) fun n => writeK b o (.rep 1 (.i kd n)) h fun h => k (.s (.i kd n)) h) eX
noncomputable def xLoad (kd : IntKind) : XT := fun _ l h k => args1 l fun p => place p fun b o => cell b o h fun v => onInt v fun j a => ifB (kindEq j kd) (k (.s (.i j a)) h) eX
noncomputable def xStore : XT := fun _ l h k => args2 l fun p v => place p fun b o => onInt v fun j a => writeK b o (.rep 1 (.i j a)) h fun h => k .u h
noncomputable def xCas (kd : IntKind) : XT := fun _ l h k => args3 l fun p old new => place p fun b o => cell b o h fun v => onInt v fun j a => onInt old fun j2 c => onInt new fun i n => ifB (andB (kindEq j kd) (andB (kindEq j2 kd) (kindEq i kd))) (ifB (natEqInt a c) (writeK b o (.rep 1 (.i kd n)) h fun h => k (.s (.b true)) h) (writeK b o (.rep 1 (.i kd a)) h fun _ => k (.s (.b false)) h)) eX
noncomputable def xSame : XT := fun _ l h k => List.rec (motive := fun _ => RT) eX (fun x t _ => List.rec (motive := fun _ => RT) (k x h) (fun _ _ _ => eX) t) l
noncomputable def xNone : XT := fun _ l h k => k .u h
noncomputable def xMark : XT := fun _ l h k => arg1 l fun p => place p fun _ _ => k .u h
noncomputable def idx (c : Nat) (l : List UInt8) : Nat → Int := List.rec (motive := fun _ => Nat → Int) (fun _ => .negSucc 0) (fun x _ ih n => ifB (Nat.beq x.toNat c) (.ofNat n) (ih (n + 1))) l
noncomputable def cnt (c : Nat) (l : List UInt8) : Nat → Nat := List.rec (motive := fun _ => Nat → Nat) (fun n => n) (fun x _ ih n => ih (ifB (Nat.beq x.toNat c) (n + 1) n)) l
noncomputable def xIndexByte : XT := fun _ l h k => args2 l fun s c => onStr s fun s => onInt c fun kd n => iabs n fun m => ifB (andB (kindEq kd .u8) (Nat.blt m 256)) (intK (idx m s 0) fun n => k (.s (.i .i64 n)) h) eX
noncomputable def xCount : XT := fun _ l h k => args2 l fun s c => onStr s fun s => onInt c fun kd n => iabs n fun m => ifB (andB (kindEq kd .u8) (Nat.blt m 256)) (natK (cnt m s 0) fun n => k (.s (.i .i64 (.ofNat n))) h) eX
noncomputable def cmpL (a b : List UInt8) : Int := ifB (llt a b) (.negSucc 0) (ifB (llt b a) (.ofNat 1) (.ofNat 0))
noncomputable def xCmp : XT := fun _ l h k => args2 l fun s t => onStr s fun s => onStr t fun t => intK (cmpL s t) fun n => k (.s (.i .i64 n)) h
/-- Where a text stands in another one. -/
noncomputable def isPre (a : List UInt8) : List UInt8 → Bool := List.rec (motive := fun _ => List UInt8 → Bool) (fun _ => true) (fun x _ ih b => List.rec (motive := fun _ => Bool) false (fun y t _ => ifB (Nat.beq x.toNat y.toNat) (ih t) false) b) a
noncomputable def find (sub s : List UInt8) : Nat → Int := List.rec (motive := fun _ => Nat → Int) (fun n => ifB (isPre sub []) (.ofNat n) (.negSucc 0)) (fun x t ih n => ifB (isPre sub (x :: t)) (.ofNat n) (ih (n + 1))) s
noncomputable def xIndex : XT := fun _ l h k => args2 l fun s t => onStr s fun s => onStr t fun t => ifB (Nat.blt (llen s) 4294967281) (intK (find t s 0) fun n => k (.s (.i .i64 n)) h) eX
/-- MakeNoZero: so many bytes of which nothing is known: they are kept out of the known cells. -/
noncomputable def xNoZero (el : Nat) : XT := fun _ l h k => args1 l fun n => onInt n fun kd n => iabs n fun m => ifB (andB (kindEq kd .i64) (Nat.ble m 281474976710656)) (h.newK (.cells .nil el false 0) fun b h => k (.s (.sl b 0 m 0)) h) eX

/-! slices.Sorted over maps.Keys -/
noncomputable def insI (x : Int) (l : List Int) : List Int := List.rec (motive := fun _ => List Int) [x] (fun y t ih => ifB (ltF x y) (x :: y :: t) (y :: ih)) l
noncomputable def inI64 (n : Int) : Bool := Int.rec (motive := fun _ => Bool) (fun m => Nat.blt m 9223372036854775808) (fun m => Nat.blt m 9223372036854775808) n
noncomputable def keysI (m : ML) (k : List Int → RT) : RT := ML.rec (motive := fun _ => List Int → RT) k (fun key _ _ ih l => onInt key fun j n => ifB (andB (kindEq j .i64) (inI64 n)) (ih (insI n l)) eX) m []
noncomputable def csIK (l : List Int) (k : Cs → RT) : RT := List.rec (motive := fun _ => Cs → RT) k (fun x _ ih c => c.mkK (.rep 1 (.i .i64 x)) ih) l .nil
/-- The function value is maps.Keys' iterator (its number), over a box. -/
noncomputable def keysF (fk : Nat) (fn : Fn) (first cap : List Value) (k : Value → RT) : RT := Fn.rec (motive := fun _ => RT)
  (fun g => ifB (Nat.beq g fk) (List.rec (motive := fun _ => RT) (List.rec (motive := fun _ => RT) eX (fun v t _ => List.rec (motive := fun _ => RT) (k v) (fun _ _ _ => eX) t) cap) (fun _ _ _ => eX) first) eX) (fun _ => eX) (fun _ _ => eX) (fun _ _ _ _ => eX) (fun _ => eX) fn
noncomputable def xSorted (el fk : Nat) : XT := fun _ l h k => args1 l fun f => onFn f fun fn first cap => keysF fk fn first.toList cap.toList fun v => toCeK v fun v => place v fun b o => ifB (Nat.beq o 0) (h.getK b fun ob => oCells ob fun c _ ex _ => ifB ex (onSome (c.get 0) "no such cell" fun v => onMap v fun r => onSome r "nil map" fun r => h.getK r fun om => oMap om fun m _ => keysI m fun l =>
  ifB (Nat.ble (llen l) 12) (List.rec (motive := fun _ => RT) (k (.s (.v (.slice none 0 0))) h) (fun _ _ _ => csIK l fun c => natK (llen l) fun n => h.newK (.cells c el false 0) fun b h => k (.s (.sl b 0 n n)) h) l) (.err "Sorted: too many")) eX) eX
/-! slices.Insert -/
noncomputable def eI : RT := .err "Insert"
noncomputable def xInsert (st size el : Nat) : XT := fun cx l h k => args3 l fun s i v => onInt i fun ik i => ifB (kindEq ik .i64) (iabs i fun i => onSl v (fun _ _ => eX) fun bv ov m cv => ifB (Nat.beq m 0) eI (
  onSl s (fun n c => ifB (andB (Nat.beq i n) (andB (Nat.beq n 0) (Nat.beq c 0))) (appendE cx st s v h fun v h => k (.s v) h) eI)
    fun b o n cap => ifB (Nat.ble n cap) (ifB (Nat.beq i n) (appendE cx st s v h fun v h => k (.s v) h)
      (ifB (andB (Nat.blt i n) (Nat.ble (n + m) 1000000)) (srcK v m size h fun xs => ifB (Nat.beq xs.size (m * size)) (h.getK bv fun obv => oCells obv fun _ _ _ fzv => ifB (andB (Nat.beq fzv 0) (notB (Nat.beq bv b)))
        (h.getK b fun ob => oCells ob fun c e ex fz => ifB ex eI (ifB (andB (andB (Nat.beq e el) (Nat.ble fz 1)) (Nat.ble (o + cap * size) c.size))
          (c.subK o (i * size) fun c1 => c1.mkK xs fun c2 => c.subK (o + i * size) ((n - i) * size) fun c3 => c2.mkK c3 fun c4 => natK (n + m) fun r => h.delK b fun h => h.newK (.cells c4 el false fz) fun b2 h => k (.s (.sl b2 0 r r)) h) eI)) eI) eI) eI)) eI)) eX

/-- Is a bit set in a row of bytes? -/
noncomputable def bitN (m n : Nat) : Bool := Nat.beq (Nat.mod (Nat.div m (Nat.pow 2 (Nat.mod n 8))) 2) 1
noncomputable def xHas : XT := fun _ l h k => args2 l fun p d => place p fun b o => onInt d fun kd n => iabs n fun n => ifB (andB (kindEq kd .i64) (Nat.blt n 4096)) (cell b (o + n / 8) h fun v => onInt v fun j m => iabs m fun m => ifB (andB (kindEq j .u8) (Nat.blt m 256)) (boolK (bitN m n) fun t => k (.s (.b t)) h) eX) eX
/-- How many digits a number has: of this one alone (the function reads a table). -/
noncomputable def xNum : XT := fun _ l h k => args1 l fun c => onInt c fun kd n => iabs n fun n => ifB (andB (kindEq kd .u64) (Nat.beq n 201)) (k (.s (.i .i64 (.ofNat 3))) h) eX
noncomputable def xOf (k : Nat) : XT :=
  (fun (t : List XT) => Option.rec (motive := fun _ => XT) xErr (fun x => x) (lget t k))
    [xErr, xAdd .i64, xLoad .i64, xSame, xIndexByte, xStore, xCas .i32, xCount, xNone, xCmp, xIndex, xAdd .i32, xLoad .u32, xMark, xHas, xNum]

/-- The library's functions that are answered here, by their types' numbers. -/
inductive Lb where
  | no : Lb
  | noZero (el : Nat) : Lb
  | sorted (el fk : Nat) : Lb
  | insert (st size el : Nat) : Lb
noncomputable def lbOf (x : Lb) : XT := Lb.rec (motive := fun _ => XT) xErr xNoZero xSorted xInsert x

/-- The hooks and the library's functions by number. -/
inductive Tb where
  | mk (hk : List Hk) (lb : List Lb) : Tb
noncomputable def hkOf (tb : Tb) (n : Nat) : Hk := Tb.rec (motive := fun _ => Hk) (fun hk _ => Option.rec (motive := fun _ => Hk) .no (fun x => x) (lget hk n)) tb
noncomputable def lbAt (tb : Tb) (n : Nat) : Lb := Tb.rec (motive := fun _ => Lb) (fun _ lb => Option.rec (motive := fun _ => Lb) .no (fun x => x) (lget lb n)) tb

/-- A call: what stands behind the function's number. -/
noncomputable def entE (cx : Cx) (tb : Tb) (call : CallT) : CallT :=
  fun f args h k kp => entK cx f fun x => Entry.rec (motive := fun _ => RT) (fun fn hk keep dr rs => bodyE cx (hkOf tb hk) keep dr rs call fn args h k kp)
      (fun j => ifB (Nat.blt j 100) (xOf j cx args h k) (lbOf (lbAt tb (j - 100)) cx args h k)) x
noncomputable def callE (cx : Cx) (tb : Tb) (n : Nat) : CallT :=
  Nat.rec (motive := fun _ => CallT) (fun _ _ _ _ _ => .err "calls too deep") (fun _ ih => entE cx tb ih) n
end Go.Ev
end
section
/- Ev, soundness, part 1: what the evaluator's helpers come to. Conditions: none. -/
namespace Go.Ev
set_option linter.unusedVariables false

theorem ifB_eq {α : Type} (b : Bool) (t e : α) : ifB b t e = if b then t else e := by cases b <;> rfl
theorem ifB_true {α : Type} (t e : α) : ifB true t e = t := rfl
theorem ifB_false {α : Type} (t e : α) : ifB false t e = e := rfl
theorem natK_eq {α : Type} (n : Nat) (k : Nat → α) : natK n k = k n := by cases n <;> rfl
theorem intK_eq (n : Int) (k : Int → RT) : intK n k = k n := by
  cases n with
  | ofNat m => exact natK_eq m fun m => k (.ofNat m)
  | negSucc m => exact natK_eq m fun m => k (.negSucc m)
theorem ifB_dec {α : Type} (p : Prop) [Decidable p] (t e : α) : ifB (decide p) t e = if p then t else e := by by_cases h : p <;> simp [h] <;> rfl
theorem blt_dec (a b : Nat) : Nat.blt a b = decide (a < b) := by rw [Bool.eq_iff_iff]; simp [Nat.blt_eq]
theorem ble_dec (a b : Nat) : Nat.ble a b = decide (a ≤ b) := by rw [Bool.eq_iff_iff]; simp [Nat.ble_eq]
theorem beq_dec (a b : Nat) : Nat.beq a b = decide (a = b) := by rw [Bool.eq_iff_iff]; simp [Nat.beq_eq]
theorem boolK_eq (b : Bool) (k : Bool → RT) : boolK b k = k b := by cases b <;> rfl
theorem andB_eq (a b : Bool) : andB a b = (a && b) := by cases a <;> rfl
theorem notB_eq (b : Bool) : notB b = !b := by cases b <;> rfl
theorem boolEq_eq (a b : Bool) : boolEq a b = (a == b) := by cases a <;> cases b <;> rfl

theorem kindEq_spec {a b : IntKind} (h : kindEq a b = true) : a = b := by cases a <;> cases b <;> first | rfl | cases h
theorem natEqInt_eq (a b : Int) : natEqInt a b = (a == b) := by
  cases a <;> cases b <;> rw [Bool.eq_iff_iff] <;> simp [natEqInt, beq_dec] <;> omega

/-- An answer that is no error. -/
def RT.fine (x : RT) : Prop := ∀ w, x ≠ .err w
theorem RT.fine_ok {v : RV} {h : H} : (RT.ok v h).fine := fun _ h => by cases h

/-! ### ropes -/
def Cs.l : Cs → List Ce
  | .nil => []
  | .rep n v => List.replicate n v
  | .cat _ a b => a.l ++ b.l
def Cs.good : Cs → Prop
  | .nil => True
  | .rep _ _ => True
  | .cat n a b => n = a.l.length + b.l.length ∧ a.good ∧ b.good

theorem Cs.size_eq {c : Cs} (h : c.good) : c.size = c.l.length := by
  cases c with
  | nil => rfl
  | rep n v => simp [Cs.size, Cs.l]
  | cat n a b => simp [Cs.size, Cs.l, h.1]

theorem Cs.toL_eq (c : Cs) : c.toL = c.l := by
  have key : ∀ (c : Cs) (l : List Ce), (Cs.rec (motive := fun _ => List Ce → List Ce) (fun l => l) (fun n v l => Nat.rec (motive := fun _ => List Ce) l (fun _ ih => v :: ih) n) (fun _ _ _ fa fb l => fa (fb l)) c : List Ce → List Ce) l = c.l ++ l := by
    intro c
    induction c with
    | nil => intro l; rfl
    | rep n v =>
      intro l
      simp only [Cs.l]
      induction n with
      | zero => rfl
      | succ n ih => simp only [List.replicate_succ, List.cons_append]; exact congrArg (v :: ·) ih
    | cat n a b iha ihb => intro l; simp only [Cs.l, List.append_assoc]; rw [iha, ihb]
  simpa [Cs.toL] using key c []

theorem Cs.catK_eq {a b : Cs} (k : Cs → RT) : a.catK b k = k (.cat (a.size + b.size) a b) := by simp [Cs.catK, natK_eq]
theorem Cs.cat_good {a b : Cs} (ha : a.good) (hb : b.good) : (Cs.cat (a.size + b.size) a b).good := ⟨by rw [a.size_eq ha, b.size_eq hb], ha, hb⟩

/-- A rope's operation: whatever follows, it hands on one rope, with these cells. -/
def Gives (f : (Cs → RT) → RT) (l : List Ce) : Prop := ∃ c : Cs, (∀ k, f k = k c) ∧ c.good ∧ c.l = l

theorem sameS_spec {a b : Ce} (h : sameS a b = true) : a = b := by
  cases a with
  | i k m =>
    cases b with
    | i j n =>
      simp only [sameS, Ce.onI, ifB_eq] at h
      cases hk : kindEq k j <;> simp [hk] at h
      rw [natEqInt_eq] at h
      rw [kindEq_spec hk, eq_of_beq h]
    | _ => simp [sameS, Ce.onI] at h
  | b x => cases b with
    | b y => cases x <;> cases y <;> simp_all [sameS, Ce.onB]
    | _ => simp [sameS, Ce.onB] at h
  | p x y => cases b with
    | p z w =>
      simp only [sameS, Ce.onP, ifB_eq] at h
      cases hk : Nat.beq x z <;> simp [hk] at h
      rw [Nat.eq_of_beq_eq_true hk, h]
    | _ => simp [sameS, Ce.onP] at h
  | _ => simp [sameS] at h

theorem Cs.mkK_gives {a : Cs} (ha : a.good) : ∀ {b : Cs}, b.good → Gives (a.mkK b) (a.l ++ b.l) := by
  induction a with
  | nil => intro b hb; exact ⟨b, fun _ => rfl, hb, by simp [Cs.l]⟩
  | rep n v =>
    intro b hb
    cases b with
    | nil => exact ⟨.rep n v, fun _ => rfl, trivial, by simp [Cs.l]⟩
    | rep m w =>
      cases hs : sameS v w with
      | true =>
        refine ⟨.rep (n + m) v, fun k => ?_, trivial, ?_⟩
        · show ifB (sameS v w) (natK (n + m) fun s => k (.rep s v)) _ = _
          rw [hs, ifB_true, natK_eq]
        · rw [sameS_spec hs]; simp [Cs.l]
      | false =>
        refine ⟨.cat (n + m) (.rep n v) (.rep m w), fun k => ?_, ⟨by simp [Cs.l], trivial, trivial⟩, by simp [Cs.l]⟩
        show ifB (sameS v w) _ (natK (n + m) fun s => k (.cat s (.rep n v) (.rep m w))) = _
        rw [hs, ifB_false, natK_eq]
    | cat m x y =>
      cases h0 : Nat.beq n 0 with
      | true =>
        have := Nat.eq_of_beq_eq_true h0
        subst this
        refine ⟨.cat m x y, fun k => ?_, hb, by simp [Cs.l]⟩
        rfl
      | false =>
        refine ⟨.cat (n + m) (.rep n v) (.cat m x y), fun k => ?_, ⟨?_, trivial, hb⟩, by simp [Cs.l]⟩
        · show ifB (Nat.beq n 0) _ (natK (n + m) fun s => k (.cat s (.rep n v) (.cat m x y))) = _
          rw [h0, ifB_false, natK_eq]
        · have := hb.1; simp [Cs.l] at this ⊢; omega
  | cat n x y ihx ihy =>
    intro b hb
    have hunf : ∀ k, (Cs.cat n x y).mkK b k = ifB (Nat.beq b.size 0) (k (.cat n x y)) (ifB (Nat.ble n b.size) (natK (n + b.size) fun s => k (.cat s (.cat n x y) b)) (ifB (Nat.ble y.size b.size) (natK (y.size + b.size) fun s => x.mkK (.cat s y b) k) (natK (n + b.size) fun s => k (.cat s (.cat n x y) b)))) := fun _ => rfl
    have hcat : Gives (fun k => natK (n + b.size) fun s => k (.cat s (.cat n x y) b)) ((Cs.cat n x y).l ++ b.l) := by
      refine ⟨.cat (n + b.size) (.cat n x y) b, fun k => natK_eq _ _, ⟨?_, ha, hb⟩, rfl⟩
      rw [b.size_eq hb]; have := ha.1; simp [Cs.l]; omega
    cases h0 : Nat.beq b.size 0 with
    | true =>
      have h1 := Nat.eq_of_beq_eq_true h0
      rw [b.size_eq hb] at h1
      refine ⟨.cat n x y, fun k => by rw [hunf, h0]; rfl, ha, ?_⟩
      rw [List.eq_nil_of_length_eq_zero h1]; simp
    | false =>
      cases h1 : Nat.ble n b.size with
      | true => obtain ⟨c, hk, hc, hl⟩ := hcat; exact ⟨c, fun k => by rw [hunf, h0, h1]; exact hk k, hc, hl⟩
      | false =>
        cases h2 : Nat.ble y.size b.size with
        | true =>
          obtain ⟨c, hk, hc, hl⟩ := ihx ha.2.1 (b := .cat (y.size + b.size) y b) (Cs.cat_good ha.2.2 hb)
          refine ⟨c, fun k => ?_, hc, by rw [hl]; simp [Cs.l]⟩
          rw [hunf, h0, h1, h2]
          show natK (y.size + b.size) (fun s => x.mkK (.cat s y b) k) = _
          rw [natK_eq]; exact hk k
        | false => obtain ⟨c, hk, hc, hl⟩ := hcat; exact ⟨c, fun k => by rw [hunf, h0, h1, h2]; exact hk k, hc, hl⟩

theorem Cs.get_eq {c : Cs} (hc : c.good) : ∀ i, c.get i = c.l[i]? := by
  induction c with
  | nil => intro i; simp [Cs.get, Cs.l]
  | rep n v =>
    intro i
    show ifB (Nat.blt i n) (some v) none = _
    rw [blt_dec, ifB_dec]
    by_cases h : i < n <;> simp [Cs.l, h]
  | cat n a b iha ihb =>
    intro i
    show ifB (Nat.blt i a.size) (a.get i) (b.get (i - a.size)) = _
    rw [a.size_eq hc.2.1, blt_dec, ifB_dec, iha hc.2.1, ihb hc.2.2]
    by_cases h : i < a.l.length
    · simp [h, Cs.l, List.getElem?_append_left h]
    · simp [h, Cs.l, List.getElem?_append_right (Nat.le_of_not_lt h)]

theorem Cs.takeK_gives {c : Cs} (hc : c.good) : ∀ j, Gives (c.takeK j) (c.l.take j) := by
  induction c with
  | nil => intro j; exact ⟨.nil, fun _ => rfl, trivial, by simp [Cs.l]⟩
  | rep n v =>
    intro j
    have hunf : ∀ k, (Cs.rep n v).takeK j k = ifB (Nat.ble n j) (k (.rep n v)) (ifB (Nat.beq j 0) (k .nil) (natK j fun j => k (.rep j v))) := fun _ => rfl
    by_cases h : n ≤ j
    · exact ⟨.rep n v, fun k => by rw [hunf, ble_dec, ifB_dec, if_pos h], trivial, by simp [Cs.l, Nat.min_eq_right h]⟩
    · by_cases h0 : j = 0
      · exact ⟨.nil, fun k => by rw [hunf, ble_dec, ifB_dec, if_neg h, beq_dec, ifB_dec, if_pos h0], trivial, by simp [Cs.l, h0]⟩
      · exact ⟨.rep j v, fun k => by rw [hunf, ble_dec, ifB_dec, if_neg h, beq_dec, ifB_dec, if_neg h0, natK_eq], trivial, by simp [Cs.l]; omega⟩
  | cat n a b iha ihb =>
    intro j
    have hunf : ∀ k, (Cs.cat n a b).takeK j k = ifB (Nat.ble n j) (k (.cat n a b)) (ifB (Nat.ble j a.size) (a.takeK j k) (b.takeK (j - a.size) fun b => a.catK b k)) := fun _ => rfl
    have hn := hc.1
    have ha := a.size_eq hc.2.1
    by_cases h : n ≤ j
    · exact ⟨.cat n a b, fun k => by rw [hunf, ble_dec, ifB_dec, if_pos h], hc, (List.take_of_length_le (by simp [Cs.l]; omega)).symm⟩
    · by_cases h0 : j ≤ a.size
      · obtain ⟨c, hk, hg, hl⟩ := iha hc.2.1 j
        refine ⟨c, fun k => by rw [hunf, ble_dec, ifB_dec, if_neg h, ble_dec, ifB_dec, if_pos h0]; exact hk k, hg, ?_⟩
        rw [hl]; simp only [Cs.l]; rw [List.take_append_of_le_length (by omega)]
      · obtain ⟨c, hk, hg, hl⟩ := ihb hc.2.2 (j - a.size)
        refine ⟨.cat (a.size + c.size) a c, fun k => by rw [hunf, ble_dec, ifB_dec, if_neg h, ble_dec, ifB_dec, if_neg h0, hk, Cs.catK_eq], Cs.cat_good hc.2.1 hg, ?_⟩
        simp only [Cs.l, hl, ha]
        rw [List.take_append, List.take_of_length_le (l := a.l) (by omega)]

theorem Cs.dropK_gives {c : Cs} (hc : c.good) : ∀ j, Gives (c.dropK j) (c.l.drop j) := by
  induction c with
  | nil => intro j; exact ⟨.nil, fun _ => rfl, trivial, by simp [Cs.l]⟩
  | rep n v =>
    intro j
    have hunf : ∀ k, (Cs.rep n v).dropK j k = ifB (Nat.ble n j) (k .nil) (natK (n - j) fun j => k (.rep j v)) := fun _ => rfl
    by_cases h : n ≤ j
    · exact ⟨.nil, fun k => by rw [hunf, ble_dec, ifB_dec, if_pos h], trivial, by simp [Cs.l, h]⟩
    · exact ⟨.rep (n - j) v, fun k => by rw [hunf, ble_dec, ifB_dec, if_neg h, natK_eq], trivial, by simp [Cs.l]⟩
  | cat n a b iha ihb =>
    intro j
    have hunf : ∀ k, (Cs.cat n a b).dropK j k = ifB (Nat.beq j 0) (k (.cat n a b)) (ifB (Nat.ble n j) (k .nil) (ifB (Nat.ble a.size j) (b.dropK (j - a.size) k) (a.dropK j fun a => a.catK b k))) := fun _ => rfl
    have hn := hc.1
    have ha := a.size_eq hc.2.1
    by_cases h0 : j = 0
    · exact ⟨.cat n a b, fun k => by rw [hunf, beq_dec, ifB_dec, if_pos h0], hc, by simp [h0]⟩
    by_cases h : n ≤ j
    · refine ⟨.nil, fun k => by rw [hunf, beq_dec, ifB_dec, if_neg h0, ble_dec, ifB_dec, if_pos h], trivial, ?_⟩
      simp [Cs.l]; omega
    · by_cases h1 : a.size ≤ j
      · obtain ⟨c, hk, hg, hl⟩ := ihb hc.2.2 (j - a.size)
        refine ⟨c, fun k => by rw [hunf, beq_dec, ifB_dec, if_neg h0, ble_dec, ifB_dec, if_neg h, ble_dec, ifB_dec, if_pos h1]; exact hk k, hg, ?_⟩
        rw [hl, ha]; simp only [Cs.l, List.drop_append]
        rw [List.drop_of_length_le (i := j) (by omega)]; simp
      · obtain ⟨c, hk, hg, hl⟩ := iha hc.2.1 j
        refine ⟨.cat (c.size + b.size) c b, fun k => by rw [hunf, beq_dec, ifB_dec, if_neg h0, ble_dec, ifB_dec, if_neg h, ble_dec, ifB_dec, if_neg h1, hk, Cs.catK_eq], Cs.cat_good hg hc.2.2, ?_⟩
        simp only [Cs.l, hl, List.drop_append]
        rw [show j - a.l.length = 0 by omega]; simp

theorem Cs.subK_gives {c : Cs} (hc : c.good) (off n : Nat) : Gives (c.subK off n) ((c.l.drop off).take n) := by
  obtain ⟨d, hk, hg, hl⟩ := Cs.dropK_gives hc off
  obtain ⟨e, hk2, hg2, hl2⟩ := Cs.takeK_gives hg n
  exact ⟨e, fun k => by show c.dropK off (fun c => c.takeK n k) = _; rw [hk, hk2], hg2, by rw [hl2, hl]⟩

/-- Cells laid over others. -/
def lay (l : List Ce) (off : Nat) (x : List Ce) : List Ce := l.take off ++ x ++ l.drop (off + x.length)

theorem lay_all {l x : List Ce} {off : Nat} (h : x.length = l.length) (h0 : off + x.length ≤ l.length) : lay l off x = x := by
  have : off = 0 := by omega
  subst this
  simp [lay, h]
theorem lay_left {a b x : List Ce} {off : Nat} (h : off + x.length ≤ a.length) : lay (a ++ b) off x = lay a off x ++ b := by
  simp only [lay]
  rw [List.take_append_of_le_length (by omega), List.drop_append_of_le_length (by omega)]
  simp
theorem lay_right {a b x : List Ce} {off : Nat} (h : a.length ≤ off) : lay (a ++ b) off x = a ++ lay b (off - a.length) x := by
  simp only [lay]
  rw [List.take_append, List.take_of_length_le (l := a) h, List.drop_append, List.drop_of_length_le (l := a) (by omega)]
  rw [show off + x.length - a.length = off - a.length + x.length by omega]
  simp
theorem lay_both {a b x : List Ce} {off : Nat} (h : off ≤ a.length) (h2 : a.length ≤ off + x.length) (h3 : off + x.length ≤ a.length + b.length) :
    lay (a ++ b) off x = lay a off (x.take (a.length - off)) ++ lay b 0 (x.drop (a.length - off)) := by
  simp only [lay]
  rw [List.take_append_of_le_length h, List.drop_append, List.drop_of_length_le (l := a) h2, List.length_take, Nat.min_eq_left (by omega), List.drop_of_length_le (l := a) (by omega), List.length_drop]
  simp only [List.take_zero, List.nil_append, List.append_nil]
  rw [show 0 + (x.length - (a.length - off)) = off + x.length - a.length by omega]
  simp only [List.append_assoc]
  rw [← List.append_assoc (x.take _), List.take_append_drop]

theorem lay_length {l x : List Ce} {off : Nat} (h : off + x.length ≤ l.length) : (lay l off x).length = l.length := by simp [lay]; omega
theorem lay_get {l x : List Ce} {off : Nat} (h : off + x.length ≤ l.length) (i : Nat) :
    (lay l off x)[i]? = if off ≤ i ∧ i < off + x.length then x[i - off]? else l[i]? := by
  simp only [lay]
  by_cases h1 : i < off
  · rw [if_neg (by omega), List.append_assoc, List.getElem?_append_left (by simp; omega)]
    simp [h1]
  · by_cases h2 : i < off + x.length
    · rw [if_pos ⟨by omega, h2⟩, List.getElem?_append_left (by simp; omega), List.getElem?_append_right (by simp; omega)]
      congr 1; simp; omega
    · rw [if_neg (by omega), List.getElem?_append_right (by simp; omega), List.getElem?_drop]
      congr 1; simp; omega

theorem lay_rep {n off m : Nat} {v : Ce} (h : off + m ≤ n) : lay (List.replicate n v) off (List.replicate m v) = List.replicate n v := by
  apply List.ext_getElem?
  intro i
  rw [lay_get (by simp; exact h)]
  simp only [List.length_replicate, List.getElem?_replicate]
  by_cases h1 : off ≤ i ∧ i < off + m
  · rw [if_pos h1, if_pos (by omega), if_pos (by omega)]
  · rw [if_neg h1]

theorem repSpliceK_gives (v : Ce) : ∀ (fuel n off : Nat) {x : Cs}, x.good → n ≤ fuel → 0 < x.l.length → off + x.l.length ≤ n → Gives (repSpliceK fuel v n off x) (lay (List.replicate n v) off x.l) := by
  intro fuel
  induction fuel with
  | zero => intro n off x hx hn h0 h; omega
  | succ fuel ih =>
    intro n off x hx hn h0 h
    have hunf : ∀ k, repSpliceK (fuel + 1) v n off x k = ifB (Nat.beq x.size n) (k x) (natK (n / 2) fun m => natK (n - m) fun r =>
      ifB (Nat.ble (off + x.size) m) (natK off fun off => repSpliceK fuel v m off x fun a => k (.cat n a (.rep r v)))
        (ifB (Nat.ble m off) (natK (off - m) fun off => repSpliceK fuel v r off x fun b => k (.cat n (.rep m v) b))
          (x.takeK (m - off) fun xa => x.dropK (m - off) fun xb => repSpliceK fuel v m off xa fun a => repSpliceK fuel v r 0 xb fun b => k (.cat n a b)))) := fun _ => rfl
    simp only [natK_eq, beq_dec, ble_dec, ifB_dec] at hunf
    rw [x.size_eq hx] at hunf
    by_cases h1 : x.l.length = n
    · exact ⟨x, fun k => by rw [hunf, if_pos h1], hx, (lay_all (by simpa using h1) (by simpa using h)).symm⟩
    have hsplit : List.replicate n v = List.replicate (n / 2) v ++ List.replicate (n - n / 2) v := by rw [List.replicate_append_replicate]; congr 1; omega
    have h2n : 2 ≤ n := by omega
    by_cases h2 : off + x.l.length ≤ n / 2
    · obtain ⟨c, hk, hg, hl⟩ := ih (n / 2) off hx (by omega) h0 h2
      refine ⟨.cat n c (.rep (n - n / 2) v), fun k => by rw [hunf, if_neg h1, if_pos h2, hk], ⟨?_, hg, trivial⟩, ?_⟩
      · have := lay_length (l := List.replicate (n / 2) v) (x := x.l) (off := off) (by simpa using h2)
        rw [hl, this]; simp only [Cs.l, List.length_replicate]; omega
      · rw [hsplit, lay_left (by simpa using h2)]; simp [Cs.l, hl]
    by_cases h3 : n / 2 ≤ off
    · obtain ⟨c, hk, hg, hl⟩ := ih (n - n / 2) (off - n / 2) hx (by omega) h0 (by omega)
      refine ⟨.cat n (.rep (n / 2) v) c, fun k => by rw [hunf, if_neg h1, if_neg h2, if_pos h3, hk], ⟨?_, trivial, hg⟩, ?_⟩
      · have := lay_length (l := List.replicate (n - n / 2) v) (x := x.l) (off := off - n / 2) (by simp; omega)
        rw [hl, this]; simp only [Cs.l, List.length_replicate]; omega
      · rw [hsplit, lay_right (by simpa using h3)]; simp [Cs.l, hl]
    · obtain ⟨xa, hka, hga, hla⟩ := Cs.takeK_gives hx (n / 2 - off)
      obtain ⟨xb, hkb, hgb, hlb⟩ := Cs.dropK_gives hx (n / 2 - off)
      have la : xa.l.length = n / 2 - off := by rw [hla]; simp; omega
      have lb : xb.l.length = x.l.length - (n / 2 - off) := by rw [hlb]; simp
      obtain ⟨a, hk, hg, hl⟩ := ih (n / 2) off hga (by omega) (by omega) (by omega)
      obtain ⟨b, hk2, hg2, hl2⟩ := ih (n - n / 2) 0 hgb (by omega) (by omega) (by omega)
      refine ⟨.cat n a b, fun k => by rw [hunf, if_neg h1, if_neg h2, if_neg h3, hka, hkb, hk, hk2], ⟨?_, hg, hg2⟩, ?_⟩
      · have h5 := lay_length (l := List.replicate (n / 2) v) (x := xa.l) (off := off) (by simp; omega)
        have h6 := lay_length (l := List.replicate (n - n / 2) v) (x := xb.l) (off := 0) (by simp; omega)
        rw [hl, hl2, h5, h6]; simp only [List.length_replicate]; omega
      · rw [hsplit, lay_both (by simp; omega) (by simp; omega) (by simp; omega)]
        simp [Cs.l, hl, hl2, hla, hlb]

theorem isRep_spec {x : Cs} {v : Ce} (h : x.isRep v = true) : x.l = List.replicate x.l.length v := by
  cases x with
  | rep n w => have : sameS v w = true := h; rw [sameS_spec this]; simp [Cs.l]
  | _ => cases h

/-- Cells laid over others, where they fit. -/
theorem Cs.spliceK_gives {c : Cs} (hc : c.good) : ∀ (off : Nat) {x : Cs}, x.good → off + x.l.length ≤ c.l.length → Gives (c.spliceK off x) (lay c.l off x.l) := by
  induction c with
  | nil =>
    intro off x hx h
    have : x.l = [] := List.eq_nil_of_length_eq_zero (by have := h; simp only [Cs.l, List.length_nil] at this; omega)
    exact ⟨.nil, fun _ => rfl, trivial, by simp [lay, this, Cs.l]⟩
  | rep n v =>
    intro off x hx h
    have hunf : ∀ k, (Cs.rep n v).spliceK off x k = ifB (Nat.beq x.size 0) (k (.rep n v)) (ifB (x.isRep v) (k (.rep n v)) (repSpliceK n v n off x k)) := fun _ => rfl
    rw [x.size_eq hx] at hunf
    by_cases h0 : x.l.length = 0
    · exact ⟨.rep n v, fun k => by rw [hunf, beq_dec, ifB_dec, if_pos h0], trivial, by rw [List.eq_nil_of_length_eq_zero h0]; simp [lay]⟩
    · cases h1 : x.isRep v with
      | true =>
        refine ⟨.rep n v, fun k => by rw [hunf, beq_dec, ifB_dec, if_neg h0, h1]; rfl, trivial, ?_⟩
        rw [isRep_spec h1]
        exact (lay_rep (by simpa [Cs.l] using h)).symm
      | false =>
        obtain ⟨d, hk, hg, hl⟩ := repSpliceK_gives v n n off hx (Nat.le_refl n) (by omega) (by simpa [Cs.l] using h)
        exact ⟨d, fun k => by rw [hunf, beq_dec, ifB_dec, if_neg h0, h1]; exact hk k, hg, hl⟩
  | cat n a b iha ihb =>
    intro off x hx h
    have hunf : ∀ k, (Cs.cat n a b).spliceK off x k = ifB (Nat.beq x.size n) (k x) (ifB (Nat.ble (off + x.size) a.size) (a.spliceK off x fun a => k (.cat n a b))
      (ifB (Nat.ble a.size off) (natK (off - a.size) fun off => b.spliceK off x fun b => k (.cat n a b))
        (natK (a.size - off) fun j => x.takeK j fun xa => x.dropK j fun xb => a.spliceK off xa fun a => b.spliceK 0 xb fun b => k (.cat n a b)))) := fun _ => rfl
    simp only [natK_eq, beq_dec, ble_dec, ifB_dec] at hunf
    rw [x.size_eq hx, a.size_eq hc.2.1] at hunf
    have hn := hc.1
    simp only [Cs.l, List.length_append] at h
    by_cases h1 : x.l.length = n
    · exact ⟨x, fun k => by rw [hunf, if_pos h1], hx, (lay_all (by simp [Cs.l]; omega) (by simp [Cs.l]; omega)).symm⟩
    by_cases h2 : off + x.l.length ≤ a.l.length
    · obtain ⟨d, hk, hg, hl⟩ := iha hc.2.1 off hx h2
      refine ⟨.cat n d b, fun k => by rw [hunf, if_neg h1, if_pos h2, hk], ⟨?_, hg, hc.2.2⟩, ?_⟩
      · rw [hl, lay_length h2]; exact hn
      · simp only [Cs.l]; rw [lay_left h2, hl]
    by_cases h3 : a.l.length ≤ off
    · obtain ⟨d, hk, hg, hl⟩ := ihb hc.2.2 (off - a.l.length) hx (by omega)
      refine ⟨.cat n a d, fun k => by rw [hunf, if_neg h1, if_neg h2, if_pos h3, hk], ⟨?_, hc.2.1, hg⟩, ?_⟩
      · rw [hl, lay_length (by omega)]; exact hn
      · simp only [Cs.l]; rw [lay_right h3, hl]
    · obtain ⟨xa, hka, hga, hla⟩ := Cs.takeK_gives hx (a.l.length - off)
      obtain ⟨xb, hkb, hgb, hlb⟩ := Cs.dropK_gives hx (a.l.length - off)
      have la : xa.l.length = a.l.length - off := by rw [hla]; simp; omega
      have lb : xb.l.length = x.l.length - (a.l.length - off) := by rw [hlb]; simp
      obtain ⟨d, hk, hg, hl⟩ := iha hc.2.1 off hga (by omega)
      obtain ⟨e, hk2, hg2, hl2⟩ := ihb hc.2.2 0 hgb (by omega)
      refine ⟨.cat n d e, fun k => by rw [hunf, if_neg h1, if_neg h2, if_neg h3, hka, hkb, hk, hk2], ⟨?_, hg, hg2⟩, ?_⟩
      · rw [hl, hl2, lay_length (by omega), lay_length (by omega)]; exact hn
      · simp only [Cs.l]
        rw [lay_both (by omega) (by omega) (by omega), hl, hl2, hla, hlb]

theorem Cs.ofListK_gives (l : List Ce) : Gives (Cs.ofListK l) l := by
  have key : ∀ (l : List Ce) (a : Cs), a.good → Gives (fun k => List.rec (motive := fun _ => Cs → RT) k (fun v _ ih a => a.mkK (.rep 1 v) ih) l a) (a.l ++ l) := by
    intro l
    induction l with
    | nil => intro a ha; exact ⟨a, fun _ => rfl, ha, by simp⟩
    | cons v l ih =>
      intro a ha
      obtain ⟨b, hk, hg, hl⟩ := Cs.mkK_gives ha (b := .rep 1 v) trivial
      obtain ⟨c, hk2, hg2, hl2⟩ := ih b hg
      refine ⟨c, fun k => ?_, hg2, by rw [hl2, hl]; simp [Cs.l]⟩
      show a.mkK (.rep 1 v) (fun a => List.rec (motive := fun _ => Cs → RT) k (fun v _ ih a => a.mkK (.rep 1 v) ih) l a) = _
      rw [hk]; exact hk2 k
  exact key l .nil trivial

theorem Cs.timesK_gives (n : Nat) {c : Cs} (hc : c.good) : Gives (Cs.timesK n c) (List.replicate n c.l).flatten := by
  cases c with
  | nil => exact ⟨.nil, fun _ => rfl, trivial, by simp [Cs.l]⟩
  | rep m v => exact ⟨.rep (n * m) v, fun k => natK_eq (n * m) fun s => k (.rep s v), trivial, by simp [Cs.l, List.flatten_replicate_replicate]⟩
  | cat m a b =>
    have key : ∀ (n : Nat) (acc : Cs), acc.good → Gives (fun k => Nat.rec (motive := fun _ => Cs → RT) k (fun _ ih acc => acc.mkK (.cat m a b) ih) n acc) (acc.l ++ (List.replicate n (Cs.cat m a b).l).flatten) := by
      intro n
      induction n with
      | zero => intro acc ha; exact ⟨acc, fun _ => rfl, ha, by simp⟩
      | succ n ih =>
        intro acc ha
        obtain ⟨d, hk, hg, hl⟩ := Cs.mkK_gives ha hc
        obtain ⟨e, hk2, hg2, hl2⟩ := ih d hg
        refine ⟨e, fun k => ?_, hg2, by rw [hl2, hl]; simp [List.replicate_succ]⟩
        show acc.mkK (.cat m a b) (fun acc => Nat.rec (motive := fun _ => Cs → RT) k (fun _ ih acc => acc.mkK (.cat m a b) ih) n acc) = _
        rw [hk]; exact hk2 k
    exact key n .nil trivial
end Go.Ev
end
section
/- Ev, soundness, part 2: tries, the heap, how the evaluator's values and heap stand to the model's. Conditions: none. -/
namespace Go.Ev
set_option linter.unusedVariables false

/-! ### tries -/
section
variable {α : Type}
theorem Tr.get_nil (m : Nat) : (Tr.nil : Tr α).get m = none := rfl
theorem Tr.get_zero (l : Tr α) (v : Option α) (r : Tr α) : (Tr.node l v r).get 0 = v := rfl
theorem Tr.get_succ (l : Tr α) (v : Option α) (r : Tr α) (m : Nat) : (Tr.node l v r).get (m + 1) = if m % 2 = 0 then l.get (m / 2) else r.get (m / 2) := by
  show ifB (Nat.beq (m % 2) 0) (l.get (m / 2)) (r.get (m / 2)) = _
  rw [beq_dec, ifB_dec]

theorem Tr.one_get (x : α) : ∀ (fuel n m : Nat), n ≤ fuel → (Tr.one fuel x n).get m = if m = n then some x else none := by
  intro fuel
  induction fuel with
  | zero =>
    intro n m h
    have : n = 0 := by omega
    subst this
    cases m with
    | zero => rfl
    | succ m => show Tr.get (Tr.node .nil (some x) .nil) (m + 1) = _; rw [Tr.get_succ]; simp [Tr.get_nil]
  | succ fuel ih =>
    intro n m h
    cases n with
    | zero =>
      cases m with
      | zero => rfl
      | succ m => show Tr.get (Tr.node .nil (some x) .nil) (m + 1) = _; rw [Tr.get_succ]; simp [Tr.get_nil]
    | succ n =>
      have hunf : Tr.one (fuel + 1) x (n + 1) = ifB (Nat.beq (n % 2) 0) (.node (Tr.one fuel x (n / 2)) none .nil) (.node .nil none (Tr.one fuel x (n / 2))) := rfl
      rw [hunf, beq_dec, ifB_dec]
      have ih' := fun m => ih (n / 2) m (by omega)
      by_cases h0 : n % 2 = 0
      · rw [if_pos h0]
        cases m with
        | zero => simp [Tr.get_zero]
        | succ m =>
          rw [Tr.get_succ, ih']
          by_cases h1 : m % 2 = 0
          · rw [if_pos h1]; by_cases h2 : m / 2 = n / 2
            · rw [if_pos h2, if_pos (by omega)]
            · rw [if_neg h2, if_neg (by omega)]
          · rw [if_neg h1, if_neg (by omega)]; rfl
      · rw [if_neg h0]
        cases m with
        | zero => simp [Tr.get_zero]
        | succ m =>
          rw [Tr.get_succ, ih']
          by_cases h1 : m % 2 = 0
          · rw [if_pos h1, if_neg (by omega)]; rfl
          · rw [if_neg h1]; by_cases h2 : m / 2 = n / 2
            · rw [if_pos h2, if_pos (by omega)]
            · rw [if_neg h2, if_neg (by omega)]

theorem Tr.setK_gives (t : Tr α) (x : α) : ∀ n, ∃ t', (∀ k, t.setK x n k = k t') ∧ ∀ m, t'.get m = if m = n then some x else t.get m := by
  induction t with
  | nil => intro n; exact ⟨Tr.one n x n, fun _ => rfl, fun m => by rw [Tr.one_get x n n m (Nat.le_refl n), Tr.get_nil]⟩
  | node l v r ihl ihr =>
    intro n
    cases n with
    | zero =>
      refine ⟨.node l (some x) r, fun _ => rfl, fun m => ?_⟩
      cases m with
      | zero => rfl
      | succ m => simp [Tr.get_succ]
    | succ n =>
      have hunf : ∀ k, (Tr.node l v r).setK x (n + 1) k = ifB (Nat.beq (n % 2) 0) (l.setK x (n / 2) (fun l' => k (.node l' v r))) (r.setK x (n / 2) (fun r' => k (.node l v r'))) := fun _ => rfl
      simp only [beq_dec, ifB_dec] at hunf
      by_cases h0 : n % 2 = 0
      · obtain ⟨t', hk, hg⟩ := ihl (n / 2)
        refine ⟨.node t' v r, fun k => by rw [hunf, if_pos h0, hk], fun m => ?_⟩
        cases m with
        | zero => simp [Tr.get_zero]
        | succ m =>
          rw [Tr.get_succ, Tr.get_succ, hg]
          by_cases h1 : m % 2 = 0
          · rw [if_pos h1, if_pos h1]; by_cases h2 : m / 2 = n / 2
            · rw [if_pos h2, if_pos (by omega)]
            · rw [if_neg h2, if_neg (by omega)]
          · rw [if_neg h1, if_neg h1, if_neg (by omega)]
      · obtain ⟨t', hk, hg⟩ := ihr (n / 2)
        refine ⟨.node l v t', fun k => by rw [hunf, if_neg h0, hk], fun m => ?_⟩
        cases m with
        | zero => simp [Tr.get_zero]
        | succ m =>
          rw [Tr.get_succ, Tr.get_succ, hg]
          by_cases h1 : m % 2 = 0
          · rw [if_pos h1, if_pos h1, if_neg (by omega)]
          · rw [if_neg h1, if_neg h1]; by_cases h2 : m / 2 = n / 2
            · rw [if_pos h2, if_pos (by omega)]
            · rw [if_neg h2, if_neg (by omega)]

theorem Tr.delK_gives (t : Tr α) : ∀ n, ∃ t', (∀ k, t.delK n k = k t') ∧ ∀ m, t'.get m = if m = n then none else t.get m := by
  induction t with
  | nil => intro n; exact ⟨.nil, fun _ => rfl, fun m => by simp [Tr.get_nil]⟩
  | node l v r ihl ihr =>
    intro n
    cases n with
    | zero =>
      refine ⟨.node l none r, fun _ => rfl, fun m => ?_⟩
      cases m with
      | zero => rfl
      | succ m => simp [Tr.get_succ]
    | succ n =>
      have hunf : ∀ k, (Tr.node l v r).delK (n + 1) k = ifB (Nat.beq (n % 2) 0) (l.delK (n / 2) (fun l' => k (.node l' v r))) (r.delK (n / 2) (fun r' => k (.node l v r'))) := fun _ => rfl
      simp only [beq_dec, ifB_dec] at hunf
      by_cases h0 : n % 2 = 0
      · obtain ⟨t', hk, hg⟩ := ihl (n / 2)
        refine ⟨.node t' v r, fun k => by rw [hunf, if_pos h0, hk], fun m => ?_⟩
        cases m with
        | zero => simp [Tr.get_zero]
        | succ m =>
          rw [Tr.get_succ, Tr.get_succ, hg]
          by_cases h1 : m % 2 = 0
          · rw [if_pos h1, if_pos h1]; by_cases h2 : m / 2 = n / 2
            · rw [if_pos h2, if_pos (by omega)]
            · rw [if_neg h2, if_neg (by omega)]
          · rw [if_neg h1, if_neg h1, if_neg (by omega)]
      · obtain ⟨t', hk, hg⟩ := ihr (n / 2)
        refine ⟨.node l v t', fun k => by rw [hunf, if_neg h0, hk], fun m => ?_⟩
        cases m with
        | zero => simp [Tr.get_zero]
        | succ m =>
          rw [Tr.get_succ, Tr.get_succ, hg]
          by_cases h1 : m % 2 = 0
          · rw [if_pos h1, if_pos h1, if_neg (by omega)]
          · rw [if_neg h1, if_neg h1]; by_cases h2 : m / 2 = n / 2
            · rw [if_pos h2, if_pos (by omega)]
            · rw [if_neg h2, if_neg (by omega)]
end

/-! ### the heap -/
/-- What lies at a handle. -/
noncomputable def H.at (h : H) (a : Nat) : Option HObj := match h with | .mk t _ => t.get a
def H.next (h : H) : Nat := match h with | .mk _ n => n
theorem H.nx_eq (h : H) : h.nx = h.next := by cases h; rfl

theorem getK_ok {h : H} {a : Nat} {k : HObj → RT} {v : RV} {h' : H} (e : h.getK a k = .ok v h') : ∃ o, h.at a = some o ∧ k o = .ok v h' := by
  cases h with
  | mk t n =>
    have e' : (Option.rec (motive := fun _ => RT) (.err "no such object") k (t.get a) : RT) = .ok v h' := e
    cases hg : t.get a with
    | none => rw [hg] at e'; cases e'
    | some o => rw [hg] at e'; exact ⟨o, hg, e'⟩
theorem setK_gives (h : H) (a : Nat) (o : HObj) : ∃ h', (∀ k, h.setK a o k = k h') ∧ h'.next = h.next ∧ ∀ m, h'.at m = if m = a then some o else h.at m := by
  cases h with
  | mk t n => obtain ⟨t', hk, hg⟩ := t.setK_gives o a; exact ⟨.mk t' n, fun k => hk _, rfl, hg⟩
theorem delK_gives (h : H) (a : Nat) : ∃ h', (∀ k, h.delK a k = k h') ∧ h'.next = h.next ∧ ∀ m, h'.at m = if m = a then none else h.at m := by
  cases h with
  | mk t n => obtain ⟨t', hk, hg⟩ := t.delK_gives a; exact ⟨.mk t' n, fun k => hk _, rfl, hg⟩
theorem newK_gives (h : H) (o : HObj) : ∃ h', (∀ k, h.newK o k = k h.next h') ∧ h'.next = h.next + 1 ∧ ∀ m, h'.at m = if m = h.next then some o else h.at m := by
  cases h with
  | mk t n =>
    obtain ⟨t', hk, hg⟩ := t.setK_gives o n
    refine ⟨.mk t' (n + 1), fun k => ?_, rfl, hg⟩
    show t.setK o n (fun t' => natK (n + 1) fun m => k n (.mk t' m)) = _
    rw [hk, natK_eq]; rfl

/-! ### values -/
/-- Where handles lie: the block, the place of the first known cell, the capacity beyond what is known (in elements). -/
abbrev Rho := Nat → Option (Nat × Nat × Nat)
def Rho.sub (ρ ρ' : Rho) : Prop := ∀ a x, ρ a = some x → ρ' a = some x
theorem Rho.sub.refl (ρ : Rho) : ρ.sub ρ := fun _ _ h => h
theorem Rho.sub.trans {ρ ρ' ρ'' : Rho} (h : ρ.sub ρ') (h' : ρ'.sub ρ'') : ρ.sub ρ'' := fun a x e => h' a x (h a x e)

mutual
/-- A value with handles stands to one with blocks. -/
inductive VR (ρ : Rho) : Value → Value → Prop
  | bool (b : Bool) : VR ρ (.bool b) (.bool b)
  | int (k : IntKind) (n : Int) : VR ρ (.int k n) (.int k n)
  | str (s : ByteArray) : VR ρ (.string s) (.string s)
  | np : VR ρ (.pointer none) (.pointer none)
  | p (h o b base ex : Nat) (e : ρ h = some (b, base, ex)) : VR ρ (.pointer (some ⟨h, o, none⟩)) (.pointer (some ⟨b, base + o, none⟩))
  | ns (n m : Nat) : VR ρ (.slice none n m) (.slice none n m)
  | sl (h o n c b base ex : Nat) (e : ρ h = some (b, base, ex)) : VR ρ (.slice (some ⟨h, o, none⟩) n c) (.slice (some ⟨b, base + o, none⟩) n (c + ex))
  | nm : VR ρ (.map none) (.map none)
  | m (h b base ex : Nat) (e : ρ h = some (b, base, ex)) : VR ρ (.map (some h)) (.map (some b))
  | nc : VR ρ (.chan none) (.chan none)
  | fn (f : Fn) (xs ys xs' ys' : Array Value) (e : VRs ρ xs.toList xs'.toList) (e' : VRs ρ ys.toList ys'.toList) : VR ρ (.func f xs ys) (.func f xs' ys')
  | nf : VR ρ .nilFunc .nilFunc
  | ifc (t : TypeId) (v v' : Value) (e : VR ρ v v') : VR ρ (.iface t v) (.iface t v')
  | ni : VR ρ .nilIface .nilIface
  | agg (xs xs' : Array Value) (e : VRs ρ xs.toList xs'.toList) : VR ρ (.agg xs) (.agg xs')
inductive VRs (ρ : Rho) : List Value → List Value → Prop
  | nil : VRs ρ [] []
  | cons (v v' : Value) (l l' : List Value) (e : VR ρ v v') (e' : VRs ρ l l') : VRs ρ (v :: l) (v' :: l')
end

mutual
theorem VR.mono {ρ ρ' : Rho} (hs : ρ.sub ρ') {v v' : Value} (h : VR ρ v v') : VR ρ' v v' := by
  cases h with
  | p h o b base ex e => exact .p h o b base ex (hs _ _ e)
  | sl h o n c b base ex e => exact .sl h o n c b base ex (hs _ _ e)
  | m h b base ex e => exact .m h b base ex (hs _ _ e)
  | fn f xs ys xs' ys' e e' => exact .fn f xs ys xs' ys' (VRs.mono hs e) (VRs.mono hs e')
  | ifc t v v' e => exact .ifc t v v' (VR.mono hs e)
  | agg xs xs' e => exact .agg xs xs' (VRs.mono hs e)
  | bool b => exact .bool b
  | int k n => exact .int k n
  | str s => exact .str s
  | np => exact .np
  | ns n m => exact .ns n m
  | nm => exact .nm
  | nc => exact .nc
  | nf => exact .nf
  | ni => exact .ni
theorem VRs.mono {ρ ρ' : Rho} (hs : ρ.sub ρ') {l l' : List Value} (h : VRs ρ l l') : VRs ρ' l l' := by
  cases h with
  | nil => exact .nil
  | cons v v' l l' e e' => exact .cons v v' l l' (VR.mono hs e) (VRs.mono hs e')
end

theorem VRs.length {ρ : Rho} : ∀ {l l' : List Value}, VRs ρ l l' → l.length = l'.length
  | [], _, h => by cases h; rfl
  | _ :: _, _, h => by cases h with | cons _ v' l l' e e' => simp [VRs.length e']
theorem VRs.get {ρ : Rho} : ∀ {l l' : List Value}, VRs ρ l l' → ∀ (i : Nat) (v : Value), l[i]? = some v → ∃ v', l'[i]? = some v' ∧ VR ρ v v'
  | [], _, h, i, v, e => by simp at e
  | a :: l, _, h, i, v, e => by
    cases h with
    | cons _ v' _ l' e1 e2 =>
      cases i with
      | zero => simp at e; subst e; exact ⟨v', rfl, e1⟩
      | succ i => simp at e; simpa using VRs.get e2 i v e
theorem VRs.append {ρ : Rho} : ∀ {a a' b b' : List Value}, VRs ρ a a' → VRs ρ b b' → VRs ρ (a ++ b) (a' ++ b')
  | [], _, _, _, h, h' => by cases h; exact h'
  | _ :: _, _, _, _, h, h' => by cases h with | cons _ v' l l' e e' => exact .cons _ _ _ _ e (VRs.append e' h')
theorem VRs.of_get {ρ : Rho} : ∀ {l l' : List Value}, l.length = l'.length → (∀ (i : Nat) (v v' : Value), l[i]? = some v → l'[i]? = some v' → VR ρ v v') → VRs ρ l l'
  | [], [], _, _ => .nil
  | [], _ :: _, h, _ => by simp at h
  | _ :: _, [], h, _ => by simp at h
  | v :: l, v' :: l', h, hg => .cons _ _ _ _ (hg 0 v v' rfl rfl) (VRs.of_get (by simpa using h) fun i a b ha hb => hg (i + 1) a b (by simpa using ha) (by simpa using hb))

/-- A scalar of the evaluator stands to a value. -/
def CR (ρ : Rho) (c : Ce) (v : Value) : Prop := VR ρ c.toV v
/-- Cells stand to values. -/
def CRs (ρ : Rho) (l : List Ce) (vs : List Value) : Prop := VRs ρ (l.map Ce.toV) vs

mutual
/-- A value of the evaluator stands to one of the model's. -/
inductive RR (ρ : Rho) : RV → Value → Prop
  | s (c : Ce) (v : Value) (e : CR ρ c v) : RR ρ (.s c) v
  | a (c : Cs) (vs : Array Value) (g : c.good) (e : CRs ρ c.l vs.toList) : RR ρ (.a c) (.agg vs)
  | t (x : RV) (vs : Array Value) (e : TR ρ x vs.toList) : RR ρ x (.tuple vs)
/-- A tuple. -/
inductive TR (ρ : Rho) : RV → List Value → Prop
  | u : TR ρ .u []
  | p (x r : RV) (v : Value) (vs : List Value) (e : RR ρ x v) (e' : TR ρ r vs) : TR ρ (.p x r) (v :: vs)
end
mutual
theorem RR.mono {ρ ρ' : Rho} (hs : ρ.sub ρ') {x : RV} {v : Value} (h : RR ρ x v) : RR ρ' x v := by
  cases h with
  | s c v e => exact .s c v (VR.mono hs e)
  | a c vs g e => exact .a c vs g (VRs.mono hs e)
  | t x vs e => exact .t x vs (TR.mono hs e)
theorem TR.mono {ρ ρ' : Rho} (hs : ρ.sub ρ') {x : RV} {vs : List Value} (h : TR ρ x vs) : TR ρ' x vs := by
  cases h with
  | u => exact .u
  | p x r v vs e e' => exact .p x r v vs (RR.mono hs e) (TR.mono hs e')
end
end Go.Ev
end
section
/- Ev, soundness, part 3: how the evaluator's heap stands to the model's memory; reading, writing, making blocks. Conditions: none. -/
namespace Go.Ev
set_option linter.unusedVariables false

/-! ### entries of a map -/
inductive MR (ρ : Rho) : ML → List MapEntry → Prop
  | nil : MR ρ .nil []
  | cons (k : Ce) (v : RV) (t : ML) (e : MapEntry) (es : List MapEntry) (hk : k.toV = e.key) (hv : RR ρ v e.val) (ht : MR ρ t es) : MR ρ (.cons k v t) (e :: es)
theorem MR.mono {ρ ρ' : Rho} (hs : ρ.sub ρ') {l : ML} {es : List MapEntry} (h : MR ρ l es) : MR ρ' l es := by
  induction h with
  | nil => exact .nil
  | cons k v t e es hk hv ht ih => exact .cons k v t e es hk (hv.mono hs) ih

/-- A key's kind. -/
def kin : Value → Option (Option IntKind)
  | .int k _ => some (some k)
  | .string _ => some none
  | _ => none
/-- All keys are of one kind. -/
def Hom (es : List MapEntry) : Prop := ∃ c, ∀ e ∈ es, kin e.key = some c

/-- A block's mark. -/
structure Fz (fz base lo hi sz : Nat) : Prop where
  none : fz = 0 → lo = hi
  behind : fz ≤ 1 → lo = hi ∨ sz ≤ lo
  ahead : 2 ≤ fz → lo = hi ∨ hi ≤ base + (fz - 1)
theorem Fz.free {fz base lo hi sz : Nat} (h : Fz fz base lo hi sz) {j : Nat} (hj : fz ≤ j + 1) (hs : base + j < sz) : ¬ (lo ≤ base + j ∧ base + j < hi) := by
  rcases Nat.lt_or_ge fz 2 with h1 | h1
  · rcases h.behind (by omega) with h2 | h2 <;> omega
  · rcases h.ahead h1 with h2 | h2 <;> omega
theorem Fz.new (fz base sz : Nat) : Fz fz base 0 0 sz := ⟨fun _ => rfl, fun _ => .inl rfl, fun _ => .inl rfl⟩

/-- An object of the evaluator's heap stands to a block. -/
def OR (P : Program) (ρ : Rho) (heap : Array Obj) (o : HObj) (b base ex : Nat) : Prop :=
  match o with
  | .cells c e exact fz => c.good ∧ ∃ arr lo hi, heap[b]? = some (.cells arr e (lo, hi)) ∧ (∀ i v, c.l[i]? = some v → ∃ v', arr[base + i]? = some v' ∧ CR ρ v v') ∧ (exact = true → ex = 0 ∧ base = 0 ∧ arr.size = c.l.length) ∧
      base + c.l.length + ex * P.cellsOf e ≤ arr.size ∧ Fz fz base lo hi arr.size
  | .map l rg => ∃ es clk es', heap[b]? = some (.map es clk) ∧ es'.Perm es.toList ∧ MR ρ l es' ∧ (es'.map (·.key)).Nodup ∧ Hom es' ∧ (∀ e ∈ es', e.born < clk) ∧ (es'.map (·.born)).Nodup
  | .siter s pos => heap[b]? = some (.stringIter ⟨⟨s⟩⟩ pos) ∧ base = 0
  | .miter m => ∃ bm x y, ρ m = some (bm, x, y) ∧ base = 0 ∧ ∃ es clk, heap[bm]? = some (.map es clk) ∧ heap[b]? = some (.mapIter (some bm) clk #[] clk)

theorem OR.mono {P : Program} {ρ ρ' : Rho} (hs : ρ.sub ρ') {heap : Array Obj} {o : HObj} {b base ex : Nat} (h : OR P ρ heap o b base ex) : OR P ρ' heap o b base ex := by
  cases o with
  | cells c e exact fz =>
    obtain ⟨g, arr, lo, hi, hh, hc, rest⟩ := h
    exact ⟨g, arr, lo, hi, hh, fun i v e => let ⟨v', e1, e2⟩ := hc i v e; ⟨v', e1, VR.mono hs e2⟩, rest⟩
  | map l rg => obtain ⟨es, clk, es', h1, h2, h3, h4⟩ := h; exact ⟨es, clk, es', h1, h2, h3.mono hs, h4⟩
  | siter s pos => exact h
  | miter m => obtain ⟨bm, x, y, h1, h2⟩ := h; exact ⟨bm, x, y, hs _ _ h1, h2⟩

/-- The listed variables' blocks. -/
def GlobR (ρ : Rho) : Prop := ∀ g, g < globN → ∃ ex, ρ g = some (g, 0, ex)
theorem GlobR.mono {ρ ρ' : Rho} (hs : ρ.sub ρ') (h : GlobR ρ) : GlobR ρ' := fun g hg => let ⟨ex, h1⟩ := h g hg; ⟨ex, hs _ _ h1⟩

/-- The blocks that no handle names. -/
def isFree (b : Nat) : Prop := b = freeB ∨ b = tabB
/-- What stands there: some whole number; the powers of ten. -/
def FreeC (heap : Array Obj) : Prop := (∃ (m : Int) (c : Array Value) (t : TypeId) (fr : Nat × Nat), heap[freeB]? = some (.cells c t fr) ∧ c[0]? = some (.int .i64 m)) ∧
  ∃ (c : Array Value) (t : TypeId) (fr : Nat × Nat), heap[tabB]? = some (.cells c t fr) ∧ ∀ i, i < 20 → c[i]? = some (.int .u64 (10 ^ i : Nat))
def FreeR (ρ : Rho) (heap : Array Obj) : Prop := FreeC heap ∧ ∀ a x, ρ a = some x → ¬ isFree x.1
theorem FreeR.keep {ρ ρ' : Rho} {heap heap' : Array Obj} (h : FreeR ρ heap) (hb : ∀ b, isFree b → heap'[b]? = heap[b]?) (hr : ∀ a x, ρ' a = some x → ¬ isFree x.1) : FreeR ρ' heap' := by
  obtain ⟨⟨⟨m, c, t, fr, h1, h2⟩, c', t', fr', h3, h4⟩, _⟩ := h
  exact ⟨⟨⟨m, c, t, fr, (hb _ (.inl rfl)).trans h1, h2⟩, c', t', fr', (hb _ (.inr rfl)).trans h3, h4⟩, hr⟩
theorem FreeR.lt {ρ : Rho} {heap : Array Obj} (h : FreeR ρ heap) {b : Nat} (hb : isFree b) : b < heap.size := by
  obtain ⟨⟨⟨m, c, t, fr, h1, _⟩, c', t', fr', h3, _⟩, _⟩ := h
  rcases hb with rfl | rfl
  · exact (Array.getElem?_eq_some_iff.1 h1).1
  · exact (Array.getElem?_eq_some_iff.1 h3).1
/-- The evaluator's heap stands to the model's memory. -/
structure HR (P : Program) (ρ : Rho) (h : H) (w : World) : Prop where
  glob : GlobR ρ
  free : FreeR ρ w.heap
  dom : ∀ a x, ρ a = some x → a < h.next
  blk : ∀ a x, ρ a = some x → x.1 < w.heap.size
  obj : ∀ a o, h.at a = some o → ∃ b base ex, ρ a = some (b, base, ex) ∧ OR P ρ w.heap o b base ex
  /-- A map's iterator is the one that the map tells. -/
  mit : ∀ a j, h.at a = some (.miter j) → ∃ l, h.at j = some (.map l (a + 1))
  inj : ∀ a a' o o' x x', h.at a = some o → h.at a' = some o' → ρ a = some x → ρ a' = some x' → x.1 = x'.1 → a = a'

/-- A run's step: what is known stays, what no living handle names is as it was. -/
structure St (ρ : Rho) (h : H) (w : World) (ρ' : Rho) (h' : H) (w' : World) : Prop where
  sub : ρ.sub ρ'
  next : h.next ≤ h'.next
  fresh : ∀ a x, ρ' a = some x → ρ a = some x ∨ h.next ≤ a
  size : w.heap.size ≤ w'.heap.size
  frame : ∀ b, b < w.heap.size → (∀ a o x, h.at a = some o → ρ a = some x → x.1 ≠ b) → w'.heap[b]? = w.heap[b]?
  own : ∀ a o x, h'.at a = some o → ρ' a = some x → x.1 < w.heap.size → ∃ a' o' x', h.at a' = some o' ∧ ρ a' = some x' ∧ x'.1 = x.1
  os : w'.os = w.os
  out : w'.output = w.output
  tape : w'.tape = w.tape

theorem St.refl (ρ : Rho) (h : H) (w : World) : St ρ h w ρ h w :=
  ⟨Rho.sub.refl ρ, Nat.le_refl _, fun _ _ h => .inl h, Nat.le_refl _, fun _ _ _ => rfl, fun a o x h1 h2 _ => ⟨a, o, x, h1, h2, rfl⟩, rfl, rfl, rfl⟩
theorem St.trans {ρ ρ' ρ'' : Rho} {h h' h'' : H} {w w' w'' : World} (s : St ρ h w ρ' h' w') (t : St ρ' h' w' ρ'' h'' w'') : St ρ h w ρ'' h'' w'' :=
  { sub := s.sub.trans t.sub,
    next := Nat.le_trans s.next t.next,
    fresh := fun a x e => by
      rcases t.fresh a x e with h1 | h1
      · exact s.fresh a x h1
      · exact .inr (Nat.le_trans s.next h1),
    size := Nat.le_trans s.size t.size,
    frame := fun b hb hn => by
      rw [t.frame b (Nat.lt_of_lt_of_le hb s.size) (fun a o x h1 h2 h3 => ?_), s.frame b hb hn]
      obtain ⟨a', o', x', e1, e2, e3⟩ := s.own a o x h1 h2 (by rw [h3]; exact hb)
      exact hn a' o' x' e1 e2 (by rw [e3, h3]),
    own := fun a o x h1 h2 h3 => by
      obtain ⟨a', o', x', e1, e2, e3⟩ := t.own a o x h1 h2 (Nat.lt_of_lt_of_le h3 s.size)
      obtain ⟨a'', o'', x'', f1, f2, f3⟩ := s.own a' o' x' e1 e2 (by rw [e3]; exact h3)
      exact ⟨a'', o'', x'', f1, f2, by rw [f3, e3]⟩,
    os := t.os.trans s.os,
    out := t.out.trans s.out,
    tape := t.tape.trans s.tape }

theorem HR.drew {P : Program} {ρ : Rho} {h : H} {w : World} (r : HR P ρ h w) (n : Nat) : HR P ρ h { w with drawn := n } := ⟨r.glob, r.free, r.dom, r.blk, r.obj, r.mit, r.inj⟩
theorem St.drew (ρ : Rho) (h : H) (w : World) (n : Nat) : St ρ h w ρ h { w with drawn := n } :=
  ⟨Rho.sub.refl ρ, Nat.le_refl _, fun _ _ h => .inl h, Nat.le_refl _, fun _ _ _ => rfl, fun a o x h1 h2 _ => ⟨a, o, x, h1, h2, rfl⟩, rfl, rfl, rfl⟩

/-! ### the model's memory -/
theorem setCells_heap (b : Nat) (e : TypeId) (fr : Nat × Nat) : ∀ (vs : List Value) (o : Nat) (w : World) (arr : Array Value), w.heap[b]? = some (.cells arr e fr) → o + vs.length ≤ arr.size →
    ∃ arr', (w.setCells b o vs).heap[b]? = some (.cells arr' e fr) ∧ arr'.size = arr.size ∧ (∀ i, arr'[i]? = if o ≤ i ∧ i < o + vs.length then vs[i - o]? else arr[i]?) := by
  intro vs
  induction vs with
  | nil => intro o w arr hb h; exact ⟨arr, hb, rfl, fun i => by rw [if_neg (by simp)]⟩
  | cons v vs ih =>
    intro o w arr hb h
    simp only [List.length_cons] at h
    have h1 : (w.setCell ⟨b, o, none⟩ v).heap[b]? = some (.cells (arr.setIfInBounds o v) e fr) := by
      obtain ⟨lo, hi⟩ := fr
      simp [World.setCell, Array.getElem?_modify, hb]
    obtain ⟨arr', e1, e2, e3⟩ := ih (o + 1) (w.setCell ⟨b, o, none⟩ v) (arr.setIfInBounds o v) h1 (by simp; omega)
    refine ⟨arr', e1, by simpa using e2, fun i => ?_⟩
    rw [e3 i]
    simp only [List.length_cons]
    by_cases hi : i = o
    · subst hi
      rw [if_neg (by omega), if_pos (by omega)]
      simp [Array.getElem?_setIfInBounds]; omega
    · by_cases hc : o + 1 ≤ i ∧ i < o + 1 + vs.length
      · rw [if_pos hc, if_pos (by omega)]
        rw [show i - o = (i - (o + 1)) + 1 by omega]; simp
      · rw [if_neg hc, if_neg (by omega), Array.getElem?_setIfInBounds_ne (by omega)]

theorem setCells_other (b : Nat) : ∀ (vs : List Value) (o : Nat) (w : World) (i : Nat), i ≠ b → (w.setCells b o vs).heap[i]? = w.heap[i]? := by
  intro vs
  induction vs with
  | nil => intro o w i _; rfl
  | cons v vs ih =>
    intro o w i h
    show ((w.setCell ⟨b, o, none⟩ v).setCells b (o + 1) vs).heap[i]? = _
    rw [ih _ _ i h]
    simp [World.setCell, Array.getElem?_modify, Ne.symm h]
theorem setCells_rest (b : Nat) : ∀ (vs : List Value) (o : Nat) (w : World), (w.setCells b o vs).heap.size = w.heap.size ∧ (w.setCells b o vs).os = w.os ∧ (w.setCells b o vs).output = w.output ∧ (w.setCells b o vs).tape = w.tape := by
  intro vs
  induction vs with
  | nil => intro o w; exact ⟨rfl, rfl, rfl, rfl⟩
  | cons v vs ih =>
    intro o w
    obtain ⟨h1, h2, h3, h4⟩ := ih (o + 1) (w.setCell ⟨b, o, none⟩ v)
    exact ⟨h1.trans (by simp [World.setCell]), h2, h3, h4⟩
end Go.Ev
end
section
/- Ev, soundness, part 4: the steps of the heap: a block is made, cells are written, a handle is forgotten or made anew. Conditions: none. -/
namespace Go.Ev
set_option linter.unusedVariables false
variable {P : Program}

/-- What an object says stays, where its block (and a row's map) stays. -/
theorem OR.keep {ρ : Rho} {heap heap' : Array Obj} {o : HObj} {b base ex : Nat} (h : OR P ρ heap o b base ex) (hb : heap'[b]? = heap[b]?)
    (hm : ∀ m bm x y, o = .miter m → ρ m = some (bm, x, y) → heap'[bm]? = heap[bm]?) : OR P ρ heap' o b base ex := by
  cases o with
  | cells c e exact fz => obtain ⟨g, arr, lo, hi, hh, rest⟩ := h; exact ⟨g, arr, lo, hi, hb.trans hh, rest⟩
  | map l rg => obtain ⟨es, clk, es', h1, rest⟩ := h; exact ⟨es, clk, es', hb.trans h1, rest⟩
  | siter s pos => exact ⟨hb.trans h.1, h.2⟩
  | miter m => obtain ⟨bm, x, y, h1, h2, es, clk, h3, h4⟩ := h; exact ⟨bm, x, y, h1, h2, es, clk, (hm m bm x y rfl h1).trans h3, hb.trans h4⟩

def Rho.put (ρ : Rho) (a : Nat) (x : Nat × Nat × Nat) : Rho := fun i => if i = a then some x else ρ i
theorem Rho.put_same (ρ : Rho) (a : Nat) (x : Nat × Nat × Nat) : ρ.put a x a = some x := by simp [Rho.put]
theorem Rho.put_sub {ρ : Rho} {n : Nat} (hd : ∀ a x, ρ a = some x → a < n) (x : Nat × Nat × Nat) : ρ.sub (ρ.put n x) := fun a y e => by
  have := hd a y e
  simp only [Rho.put]; rw [if_neg (by omega)]; exact e

/-- A block is made. -/
theorem new_sound {ρ : Rho} {h h' : H} {w : World} {o : HObj} {ob : Obj} {ex : Nat} (r : HR P ρ h w) (hn : h'.next = h.next + 1) (ha : ∀ m, h'.at m = if m = h.next then some o else h.at m)
    (hor : OR P (ρ.put h.next (w.heap.size, 0, ex)) (w.heap.push ob) o w.heap.size 0 ex) (hno : ∀ j, o = .miter j → ∃ l, h.at j = some (.map l (h.next + 1))) :
    HR P (ρ.put h.next (w.heap.size, 0, ex)) h' { w with heap := w.heap.push ob } ∧ St ρ h w (ρ.put h.next (w.heap.size, 0, ex)) h' { w with heap := w.heap.push ob } := by
  have hsub := Rho.put_sub r.dom (w.heap.size, 0, ex)
  have hold : ∀ b, b < w.heap.size → (w.heap.push ob)[b]? = w.heap[b]? := fun b hb => by rw [Array.getElem?_push]; rw [if_neg (by omega)]
  have hcase : ∀ a x, ρ.put h.next (w.heap.size, 0, ex) a = some x → (a = h.next ∧ x = (w.heap.size, 0, ex)) ∨ (a ≠ h.next ∧ ρ a = some x) := fun a x e => by
    simp only [Rho.put] at e
    by_cases hc : a = h.next
    · rw [if_pos hc] at e; exact .inl ⟨hc, (Option.some.inj e).symm⟩
    · rw [if_neg hc] at e; exact .inr ⟨hc, e⟩
  have hat : ∀ j oj, h.at j = some oj → h'.at j = some oj := fun j oj e => by
    obtain ⟨b, base, ex', h1, _⟩ := r.obj j oj e
    have := r.dom j _ h1
    rw [ha, if_neg (by omega)]; exact e
  refine ⟨⟨r.glob.mono hsub, r.free.keep (fun b hb => hold b (r.free.lt hb)) (fun a x e => (hcase a x e).elim (fun h => (by rw [h.2]; exact fun hb => absurd (r.free.lt hb) (Nat.lt_irrefl _))) (fun h => r.free.2 a x h.2)), fun a x e => ?_, fun a x e => ?_, fun a o' e => ?_, fun a j e => ?_, fun a a' o1 o2 x x' e1 e2 e3 e4 e5 => ?_⟩, ⟨hsub, by omega, fun a x e => (hcase a x e).elim (fun h => .inr (by omega)) (fun h => .inl h.2), by simp, fun b hb _ => hold b hb, fun a o' x e1 e2 e3 => ?_, rfl, rfl, rfl⟩⟩
  · rcases hcase a x e with ⟨h1, _⟩ | ⟨_, h2⟩
    · omega
    · have := r.dom a x h2; omega
  · rcases hcase a x e with ⟨_, h1⟩ | ⟨_, h2⟩
    · rw [h1]; simp
    · have := r.blk a x h2; simp; omega
  · rw [ha] at e
    by_cases hc : a = h.next
    · rw [if_pos hc] at e; cases e; exact ⟨_, _, _, by rw [hc]; exact ρ.put_same _ _, hor⟩
    · rw [if_neg hc] at e
      obtain ⟨b, base, ex', h1, h2⟩ := r.obj a o' e
      refine ⟨b, base, ex', hsub _ _ h1, (h2.keep (hold b (r.blk _ _ h1)) fun m bm x y _ h4 => hold bm (r.blk _ _ h4)).mono hsub⟩
  · rw [ha] at e
    by_cases hc : a = h.next
    · rw [if_pos hc] at e; cases e
      obtain ⟨l, h1⟩ := hno j rfl
      exact ⟨l, by rw [hc]; exact hat _ _ h1⟩
    · rw [if_neg hc] at e
      obtain ⟨l, h1⟩ := r.mit a j e
      exact ⟨l, hat _ _ h1⟩
  · rw [ha] at e1 e2
    rcases hcase a x e3 with ⟨h1, h1'⟩ | ⟨h1, h1'⟩ <;> rcases hcase a' x' e4 with ⟨h2, h2'⟩ | ⟨h2, h2'⟩
    · rw [h1, h2]
    · have := r.blk _ _ h2'; rw [h1'] at e5; simp at e5; omega
    · have := r.blk _ _ h1'; rw [h2'] at e5; simp at e5; omega
    · rw [if_neg h1] at e1; rw [if_neg h2] at e2; exact r.inj a a' o1 o2 x x' e1 e2 h1' h2' e5
  · rcases hcase a x e2 with ⟨h1, h1'⟩ | ⟨h1, h1'⟩
    · rw [h1'] at e3; simp at e3
    · rw [ha, if_neg h1] at e1; exact ⟨a, o', x, e1, h1', rfl⟩

/-- A handle's object is put in place of the elder one; its block alone has changed. -/
theorem set_sound {ρ : Rho} {h h' : H} {w w' : World} {a b base ex : Nat} {o o' : HObj} (r : HR P ρ h w) (ho : h.at a = some o) (hρ : ρ a = some (b, base, ex)) (hn : h'.next = h.next)
    (ha : ∀ m, h'.at m = if m = a then some o' else h.at m) (hsz : w'.heap.size = w.heap.size) (hoth : ∀ i, i ≠ b → w'.heap[i]? = w.heap[i]?) (hos : w'.os = w.os ∧ w'.output = w.output ∧ w'.tape = w.tape)
    (hor : OR P ρ w'.heap o' b base ex) (hmit : ∀ m j x y, h.at m = some (.miter j) → ρ j = some (b, x, y) → w'.heap[b]? = w.heap[b]?)
    (hkeep : ∀ c, c ≠ a → h.at c = some (.miter a) → ∃ l', o' = .map l' (c + 1)) (hno : ∀ j, o' ≠ .miter j) :
    HR P ρ h' w' ∧ St ρ h w ρ h' w' := by
  refine ⟨⟨r.glob, r.free.keep (fun i hi => hoth i fun h => r.free.2 a _ hρ (by rw [h] at hi; exact hi)) r.free.2, fun a x e => by rw [hn]; exact r.dom a x e, fun a x e => by rw [hsz]; exact r.blk a x e, fun c oc e => ?_, fun c j e => ?_, fun c c' o1 o2 x x' e1 e2 e3 e4 e5 => ?_⟩,
    ⟨Rho.sub.refl ρ, by rw [hn]; exact Nat.le_refl _, fun _ _ h => .inl h, by rw [hsz]; exact Nat.le_refl _, fun i _ hi => hoth i fun e => hi a o _ ho hρ e.symm, fun c oc x e1 e2 e3 => ?_, hos.1, hos.2.1, hos.2.2⟩⟩
  · rw [ha] at e
    by_cases hc : c = a
    · rw [if_pos hc] at e; cases e; exact ⟨b, base, ex, by rw [hc]; exact hρ, hor⟩
    · rw [if_neg hc] at e
      obtain ⟨b', base', ex', h1, h2⟩ := r.obj c oc e
      have hne : b' ≠ b := fun hb => hc (r.inj c a oc o _ _ e ho h1 hρ hb)
      refine ⟨b', base', ex', h1, h2.keep (hoth b' hne) fun m bm x y hm h4 => ?_⟩
      by_cases hbm : bm = b
      · subst hbm; exact hmit c m x y (by rw [e, hm]) h4
      · exact hoth bm hbm
  · rw [ha] at e
    by_cases hc : c = a
    · rw [if_pos hc] at e; cases e; exact absurd rfl (hno j)
    · rw [if_neg hc] at e
      by_cases hj : j = a
      · subst hj
        obtain ⟨l', h1⟩ := hkeep c hc e
        exact ⟨l', by rw [ha, if_pos rfl, h1]⟩
      · obtain ⟨l, h1⟩ := r.mit c j e
        exact ⟨l, by rw [ha, if_neg hj]; exact h1⟩
  · rw [ha] at e1 e2
    have g1 : ∃ o1, h.at c = some o1 := by
      by_cases hc : c = a
      · exact ⟨o, by rw [hc]; exact ho⟩
      · rw [if_neg hc] at e1; exact ⟨_, e1⟩
    have g2 : ∃ o2, h.at c' = some o2 := by
      by_cases hc : c' = a
      · exact ⟨o, by rw [hc]; exact ho⟩
      · rw [if_neg hc] at e2; exact ⟨_, e2⟩
    obtain ⟨o1, f1⟩ := g1
    obtain ⟨o2, f2⟩ := g2
    exact r.inj c c' o1 o2 x x' f1 f2 e3 e4 e5
  · rw [ha] at e1
    by_cases hc : c = a
    · subst hc; rw [hρ] at e2; cases e2; exact ⟨c, o, _, ho, hρ, rfl⟩
    · rw [if_neg hc] at e1; exact ⟨c, oc, x, e1, e2, rfl⟩

/-- No iterator stands on cells. -/
theorem HR.noMit {ρ : Rho} {h : H} {w : World} (r : HR P ρ h w) {a : Nat} {c : Cs} {e : TypeId} {x : Bool} {fz : Nat} (ho : h.at a = some (.cells c e x fz)) {q : Prop} : ∀ c', h.at c' = some (.miter a) → q := fun c' hc => by
  obtain ⟨l, h1⟩ := r.mit c' a hc
  rw [ho] at h1; cases h1

/-- Cells are written. -/
theorem write_sound {ρ : Rho} {h : H} {w : World} {a b base ex off : Nat} {c x : Cs} {e : TypeId} {exact : Bool} {fz : Nat} {vs : List Value} (r : HR P ρ h w) (ho : h.at a = some (.cells c e exact fz))
    (hρ : ρ a = some (b, base, ex)) (hx : x.good) (hv : CRs ρ x.l vs) (hfit : off + x.l.length ≤ c.l.length) (hfz : fz ≤ off + 1) :
    ∃ h', (∀ k, writeK a off x h k = k h') ∧ w.there b (base + off) vs.length ∧ HR P ρ h' (w.setCells b (base + off) vs) ∧ St ρ h w ρ h' (w.setCells b (base + off) vs) := by
  obtain ⟨b', base', ex', e1, e2⟩ := r.obj _ _ ho
  rw [hρ] at e1; cases e1
  obtain ⟨hg, arr, lo, hi, hb, hc, hex, hsz, hz⟩ := e2
  have hlen : x.l.length = vs.length := by simpa [CRs] using VRs.length hv
  obtain ⟨c', hk, hg', hl'⟩ := Cs.spliceK_gives hg off hx hfit
  obtain ⟨h', hk', hn, ha⟩ := setK_gives h a (.cells c' e exact fz)
  have hlay : c'.l.length = c.l.length := by rw [hl', lay_length hfit]
  obtain ⟨arr', f1, f2, f3⟩ := setCells_heap b e (lo, hi) vs (base + off) w arr hb (by omega)
  obtain ⟨g1, g2, g3, g4⟩ := setCells_rest b vs (base + off) w
  refine ⟨h', fun k => ?_, fun j hj => ?_, ?_⟩
  · have hget : ∀ (k : HObj → RT), h.getK a k = k (.cells c e exact fz) := fun k => by
      cases h with
      | mk t n => show (Option.rec (motive := fun _ => RT) (.err "no such object") k (t.get a) : RT) = _; rw [show t.get a = some _ from ho]
    show h.getK a _ = _
    rw [hget]
    show ifB (Nat.ble fz (Nat.succ off)) (ifB (Nat.ble (off + x.size) c.size) (c.spliceK off x fun c => h.setK a (.cells c e exact fz) k) _) _ = _
    rw [x.size_eq hx, c.size_eq hg, ble_dec, ifB_dec, if_pos (show fz ≤ Nat.succ off from hfz), ble_dec, ifB_dec, if_pos hfit, hk, hk']
  · have hlt : base + off + j < arr.size := by omega
    refine ⟨by simp [World.cell?, hb, hlt], ?_⟩
    have := hz.free (j := off + j) (by omega) (by omega)
    simp [World.frozen?, hb]
    intro h1
    rw [Nat.add_assoc] at h1 ⊢
    omega
  · have hor : OR P ρ (w.setCells b (base + off) vs).heap (.cells c' e exact fz) b base ex := by
      refine ⟨hg', arr', lo, hi, f1, fun i v hi' => ?_, fun hx => by rw [hlay, f2]; exact hex hx, by rw [hlay, f2]; exact hsz, by rw [f2]; exact hz⟩
      rw [hl', lay_get hfit] at hi'
      rw [f3]
      by_cases hin : off ≤ i ∧ i < off + x.l.length
      · rw [if_pos hin] at hi'
        rw [if_pos (by omega)]
        have hm : (x.l.map Ce.toV)[i - off]? = some v.toV := by simp [hi']
        obtain ⟨v', q1, q2⟩ := VRs.get hv _ _ hm
        exact ⟨v', by rw [← q1]; congr 1; omega, q2⟩
      · rw [if_neg hin] at hi'
        rw [if_neg (by omega)]
        exact hc i v hi'
    exact set_sound r ho hρ hn ha g1 (fun i hne => setCells_other b vs _ w i hne) ⟨g2, g3, g4⟩ hor (fun m j x y hm hj => by
      obtain ⟨bb, bs, exx, k1, bm, x', y', k2, k3, es, clk, k4, k5⟩ := r.obj m _ hm
      rw [hj] at k2; cases k2
      rw [hb] at k4; cases k4) (fun c' _ => r.noMit ho c') (fun j hj => by cases hj)
end Go.Ev
end
section
/- Ev, soundness, part 5: what follows where a helper's answer is fine; types; loads. Conditions: none. -/
namespace Go.Ev
set_option linter.unusedVariables false
variable {P : Program} {rv : RV} {rh : H}

theorem onS_ok {x : RV} {k : Ce → RT} (e : onS x k = .ok rv rh) : ∃ c, x = .s c ∧ k c = .ok rv rh := by cases x with
  | s c => exact ⟨c, rfl, e⟩
  | _ => cases e
theorem onA_ok {x : RV} {k : Cs → RT} (e : onA x k = .ok rv rh) : ∃ c, x = .a c ∧ k c = .ok rv rh := by cases x with
  | a c => exact ⟨c, rfl, e⟩
  | _ => cases e
theorem cellsK_ok {x : RV} {k : Cs → RT} (e : cellsK x k = .ok rv rh) : ∃ c, (x = .a c ∨ ∃ v, x = .s v ∧ c = .rep 1 v) ∧ k c = .ok rv rh := by cases x with
  | s v => exact ⟨_, .inr ⟨v, rfl, rfl⟩, e⟩
  | a c => exact ⟨c, .inl rfl, e⟩
  | _ => cases e
theorem onBool_ok {c : Ce} {k : Bool → RT} (e : onBool c k = .ok rv rh) : ∃ b, c = .b b ∧ k b = .ok rv rh := by cases c with
  | b x => exact ⟨x, rfl, e⟩
  | _ => cases e
theorem onInt_ok {c : Ce} {k : IntKind → Int → RT} (e : onInt c k = .ok rv rh) : ∃ j n, c = .i j n ∧ k j n = .ok rv rh := by cases c with
  | i j n => exact ⟨j, n, rfl, e⟩
  | _ => cases e
theorem onStr_ok {c : Ce} {k : List UInt8 → RT} (e : onStr c k = .ok rv rh) : ∃ l, c = .st l ∧ k l = .ok rv rh := by cases c with
  | st l => exact ⟨l, rfl, e⟩
  | _ => cases e
theorem onSome_ok {α : Type} {o : Option α} {why : String} {k : α → RT} (e : onSome o why k = .ok rv rh) : ∃ x, o = some x ∧ k x = .ok rv rh := by cases o with
  | some x => exact ⟨x, rfl, e⟩
  | none => cases e
theorem iabs_ok {a : Int} {k : Nat → RT} (e : iabs a k = .ok rv rh) : ∃ m, a = .ofNat m ∧ k m = .ok rv rh := by cases a with
  | ofNat m => exact ⟨m, rfl, e⟩
  | negSucc m => cases e
theorem nn_ok {a b : Int} {k : Nat → Nat → RT} (e : nn a b k = .ok rv rh) : ∃ x y, a = .ofNat x ∧ b = .ofNat y ∧ k x y = .ok rv rh := by
  cases a with
  | negSucc m => cases e
  | ofNat x => cases b with
    | negSucc m => cases e
    | ofNat y => exact ⟨x, y, rfl, rfl, e⟩
theorem onPtr_ok {c : Ce} {kn : RT} {k : Nat → Nat → RT} (e : onPtr c kn k = .ok rv rh) : (c = .v (.pointer none) ∧ kn = .ok rv rh) ∨ ∃ h o, c = .p h o ∧ k h o = .ok rv rh := by
  cases c with
  | p h o => exact .inr ⟨h, o, rfl, e⟩
  | v w => cases w with
    | pointer a => cases a with
      | none => exact .inl ⟨rfl, e⟩
      | some a => cases e
    | _ => cases e
  | _ => cases e
theorem onSl_ok {c : Ce} {kn : Nat → Nat → RT} {k : Nat → Nat → Nat → Nat → RT} (e : onSl c kn k = .ok rv rh) :
    (∃ n m, c = .v (.slice none n m) ∧ kn n m = .ok rv rh) ∨ ∃ h o n m, c = .sl h o n m ∧ k h o n m = .ok rv rh := by
  cases c with
  | sl h o n m => exact .inr ⟨h, o, n, m, rfl, e⟩
  | v w => cases w with
    | slice a n m => cases a with
      | none => exact .inl ⟨n, m, rfl, e⟩
      | some a => cases e
    | _ => cases e
  | _ => cases e
theorem onMap_ok {c : Ce} {k : Option Nat → RT} (e : onMap c k = .ok rv rh) : ∃ r, c = .v (.map r) ∧ k r = .ok rv rh := by
  cases c with
  | v w => cases w with
    | map r => exact ⟨r, rfl, e⟩
    | _ => cases e
  | _ => cases e
theorem onFn_ok {c : Ce} {k : Fn → Array Value → Array Value → RT} (e : onFn c k = .ok rv rh) : ∃ f a b, c = .v (.func f a b) ∧ k f a b = .ok rv rh := by
  cases c with
  | v w => cases w with
    | func f a b => exact ⟨f, a, b, rfl, e⟩
    | _ => cases e
  | _ => cases e
theorem vIface_ok {w : Value} {k : Nat → Value → RT} {kn : RT} (e : vIface w k kn = .ok rv rh) : (∃ t v, w = .iface t v ∧ k t v = .ok rv rh) ∨ (w = .nilIface ∧ kn = .ok rv rh) := by
  cases w with
  | iface t v => exact .inl ⟨t, v, rfl, e⟩
  | nilIface => exact .inr ⟨rfl, e⟩
  | _ => cases e
theorem onIface_ok {c : Ce} {k : Nat → Value → RT} {kn : RT} (e : onIface c k kn = .ok rv rh) : (∃ t v, c = .v (.iface t v) ∧ k t v = .ok rv rh) ∨ (c = .v .nilIface ∧ kn = .ok rv rh) := by
  cases c with
  | v w => rcases vIface_ok (w := w) e with ⟨t, v, h1, h2⟩ | ⟨h1, h2⟩
           · exact .inl ⟨t, v, by rw [h1], h2⟩
           · exact .inr ⟨by rw [h1], h2⟩
  | _ => cases e
theorem onPlace_ok {x : RV} {k : Nat → Nat → RT} (e : onPlace x k = .ok rv rh) : ∃ h o, x = .s (.p h o) ∧ k h o = .ok rv rh := by
  obtain ⟨c, hc, e⟩ := onS_ok e
  rcases onPtr_ok e with ⟨_, e⟩ | ⟨h, o, h1, e⟩
  · cases e
  · exact ⟨h, o, by rw [hc, h1], e⟩
theorem ifB_ok {b : Bool} {t e : RT} (h : ifB b t e = .ok rv rh) : (b = true ∧ t = .ok rv rh) ∨ (b = false ∧ e = .ok rv rh) := by cases b with
  | true => exact .inl ⟨rfl, h⟩
  | false => exact .inr ⟨rfl, h⟩
/-- A test whose other arm is an error. -/
theorem ifB_t {b : Bool} {t : RT} {w : String} (h : ifB b t (.err w) = .ok rv rh) : b = true ∧ t = .ok rv rh := by cases b with
  | true => exact ⟨rfl, h⟩
  | false => cases h
theorem ifB_e {b : Bool} {e : RT} {w : String} (h : ifB b (.err w) e = .ok rv rh) : b = false ∧ e = .ok rv rh := by cases b with
  | false => exact ⟨rfl, h⟩
  | true => cases h
theorem oCells_ok {o : HObj} {k : Cs → Nat → Bool → Nat → RT} (e : oCells o k = .ok rv rh) : ∃ c t ex fz, o = .cells c t ex fz ∧ k c t ex fz = .ok rv rh := by cases o with
  | cells c t ex fz => exact ⟨c, t, ex, fz, rfl, e⟩
  | _ => cases e
theorem oMap_ok {o : HObj} {k : ML → Nat → RT} (e : oMap o k = .ok rv rh) : ∃ l rg, o = .map l rg ∧ k l rg = .ok rv rh := by cases o with
  | map l rg => exact ⟨l, rg, rfl, e⟩
  | _ => cases e
theorem oIter_ok {o : HObj} {k : List UInt8 → Nat → RT} (e : oIter o k = .ok rv rh) : ∃ s p, o = .siter s p ∧ k s p = .ok rv rh := by cases o with
  | siter s p => exact ⟨s, p, rfl, e⟩
  | _ => cases e
theorem oMiter_ok {o : HObj} {k : Nat → RT} (e : oMiter o k = .ok rv rh) : ∃ m, o = .miter m ∧ k m = .ok rv rh := by cases o with
  | miter m => exact ⟨m, rfl, e⟩
  | _ => cases e

/-! ### types -/
noncomputable def Cx.tyAt (cx : Cx) (t : Nat) : Option TypeInfo := match cx with | .mk _ ty _ => ty.get t
noncomputable def Cx.fnAt (cx : Cx) (f : Nat) : Option Entry := match cx with | .mk fn _ _ => fn.get f
noncomputable def Cx.ls (cx : Cx) : List (Nat × Nat) := match cx with | .mk _ _ ls => ls
/-- The tables are the program's. -/
structure CxOk (P : Program) (cx : Cx) : Prop where
  ty : ∀ t i, cx.tyAt t = some i → P.info? t = some i
  small : ∀ t i, cx.tyAt t = some i → t < P.types.size
  /-- The zero values are the tables'. -/
  zero : ∀ t c, (∀ k, zeroK cx 64 t k = k c) → ∃ i z d, P.info? t = some i ∧ i.zero = some z ∧ z.cells.toList = c.l.map Ce.toV ∧ c.l.length = i.size ∧ P.underlying t = some d ∧ (d.isRow = true ↔ ∃ cs, z = .agg cs)
  /-- A zero value has the type's cells. -/
  zsz : ∀ t i z, cx.tyAt t = some i → i.zero = some z → z.cells.size = i.size
  /-- A variable of the one type lies at the beginning of one of the other. -/
  lies : ∀ p, p ∈ cx.ls → liesAt P P.depth p.1 1 0 p.2 1 = true ∧ P.cellsOf p.1 ≠ 0 ∧ (P.info? p.2).isSome = true

theorem tyK_ok' {cx : Cx} (hcx : CxOk P cx) {t : Nat} {k : TypeInfo → RT} (e : tyK cx t k = .ok rv rh) : ∃ i, P.info? t = some i ∧ (∀ z, i.zero = some z → z.cells.size = i.size) ∧ k i = .ok rv rh := by
  cases cx with
  | mk fn ty ls => obtain ⟨i, h1, h2⟩ := onSome_ok (o := ty.get t) e; exact ⟨i, hcx.ty t i h1, fun z hz => hcx.zsz t i z h1 hz, h2⟩
theorem tyK_ok {cx : Cx} (hcx : CxOk P cx) {t : Nat} {k : TypeInfo → RT} (e : tyK cx t k = .ok rv rh) : ∃ i, P.info? t = some i ∧ k i = .ok rv rh := by
  cases cx with
  | mk fn ty ls => obtain ⟨i, h1, h2⟩ := onSome_ok (o := ty.get t) e; exact ⟨i, hcx.ty t i h1, h2⟩
theorem underK_ok {cx : Cx} (hcx : CxOk P cx) {t : Nat} {k : TypeDesc → RT} (e : underK cx t k = .ok rv rh) : ∃ d, P.underlying t = some d ∧ k d = .ok rv rh := by
  obtain ⟨i, h1, e⟩ := tyK_ok hcx e
  rcases i with ⟨d0, str, size, bytes, hp, al, fal, zero, cmp, ms⟩
  cases d0 with
  | named n u =>
    obtain ⟨j, h2, e⟩ := tyK_ok hcx (t := u) (k := fun j => k j.desc) e
    exact ⟨j.desc, by simp [Program.underlying, h1, h2], e⟩
  | _ => exact ⟨_, by simp only [Program.underlying, h1], e⟩

/-- A type's description stands in the tables. -/
theorem underK_at {cx : Cx} (hcx : CxOk P cx) {t : Nat} {k : TypeDesc → RT} (e : underK cx t k = .ok rv rh) : ∃ u i, cx.tyAt u = some i ∧ P.underlying t = some i.desc ∧ k i.desc = .ok rv rh := by
  cases cx with
  | mk fn ty ls =>
  obtain ⟨i, h1, e⟩ := onSome_ok (o := ty.get t) e
  have h1' := hcx.ty t i h1
  rcases i with ⟨d0, str, size, bytes, hp, al, fal, zero, cmp, ms⟩
  cases d0 with
  | named n u =>
    obtain ⟨j, h2, e⟩ := onSome_ok (o := ty.get u) (k := fun j => k j.desc) e
    exact ⟨u, j, h2, by simp [Program.underlying, h1', hcx.ty u j h2], e⟩
  | _ => exact ⟨t, _, h1, by simp only [Program.underlying, h1'], e⟩

theorem dSlice_ok {d : TypeDesc} {k : Nat → RT} (e : dSlice d k = .ok rv rh) : ∃ t, d = .slice t ∧ k t = .ok rv rh := by cases d with
  | slice t => exact ⟨t, rfl, e⟩
  | _ => cases e
theorem dStruct_ok {d : TypeDesc} {k : Array Field → RT} (e : dStruct d k = .ok rv rh) : ∃ fs, d = .struct fs ∧ k fs = .ok rv rh := by cases d with
  | struct fs => exact ⟨fs, rfl, e⟩
  | _ => cases e
theorem dPtr_ok {d : TypeDesc} {k : Nat → RT} (e : dPtr d k = .ok rv rh) : ∃ t, d = .pointer t ∧ k t = .ok rv rh := by cases d with
  | pointer t => exact ⟨t, rfl, e⟩
  | _ => cases e
theorem dMap_ok {d : TypeDesc} {k : Nat → Nat → RT} (e : dMap d k = .ok rv rh) : ∃ a b, d = .map a b ∧ k a b = .ok rv rh := by cases d with
  | map a b => exact ⟨a, b, rfl, e⟩
  | _ => cases e
theorem dArr_ok {d : TypeDesc} {k : Nat → Nat → RT} {ke : RT} (e : dArr d k ke = .ok rv rh) : (∃ n t, d = .array n t ∧ k n t = .ok rv rh) ∨ ((∀ n t, d ≠ .array n t) ∧ ke = .ok rv rh) := by cases d with
  | array n t => exact .inl ⟨n, t, rfl, e⟩
  | _ => exact .inr ⟨fun _ _ h => (by cases h), e⟩
theorem dInt_ok {d : TypeDesc} {k : IntKind → RT} {ke : RT} (e : dInt d k ke = .ok rv rh) : (∃ j, d = .int j ∧ k j = .ok rv rh) ∨ ((∀ j, d ≠ .int j) ∧ ke = .ok rv rh) := by cases d with
  | int j => exact .inl ⟨j, rfl, e⟩
  | _ => exact .inr ⟨fun _ h => (by cases h), e⟩
theorem dStr_ok {d : TypeDesc} {k ke : RT} (e : dStr d k ke = .ok rv rh) : (d = .string ∧ k = .ok rv rh) ∨ (d ≠ .string ∧ ke = .ok rv rh) := by cases d with
  | string => exact .inl ⟨rfl, e⟩
  | _ => exact .inr ⟨fun h => by (cases h), e⟩
theorem dIface_ok {d : TypeDesc} {k ke : RT} (e : dIface d k ke = .ok rv rh) : ((∃ ms, d = .interface ms) ∧ k = .ok rv rh) ∨ ((∀ ms, d ≠ .interface ms) ∧ ke = .ok rv rh) := by cases d with
  | interface ms => exact .inl ⟨⟨ms, rfl⟩, e⟩
  | _ => exact .inr ⟨fun _ h => by (cases h), e⟩
theorem dAgg_ok {d : TypeDesc} {k ke : RT} (e : dAgg d k ke = .ok rv rh) : (d.isRow = true ∧ k = .ok rv rh) ∨ (d.isRow = false ∧ ke = .ok rv rh) := by cases d with
  | struct fs => exact .inl ⟨rfl, e⟩
  | array n t => exact .inl ⟨rfl, e⟩
  | _ => exact .inr ⟨rfl, e⟩

theorem run_isAgg {t : TypeId} {d : TypeDesc} (hu : P.underlying t = some d) (w : World) : (isAgg t).run P w = .ok d.isRow w := by
  unfold isAgg
  rw [Sem.run_bind, run_underlying hu w]
  cases d <;> rfl
theorem run_sizeOf {t : TypeId} {i : TypeInfo} (hi : P.info? t = some i) (w : World) : (sizeOf t).run P w = .ok i.size w := by simp [sizeOf, typeInfo, hi]

/-- Cells, from a place on, stand to a row's. -/
theorem CRs.sub {ρ : Rho} {l : List Ce} {vs : List Value} (h : CRs ρ l vs) (off n : Nat) : CRs ρ ((l.drop off).take n) ((vs.drop off).take n) := by
  refine VRs.of_get ?_ fun i a b h1 h2 => ?_
  · have := VRs.length h; simp at this ⊢; omega
  · simp only [List.map_take, List.map_drop, List.getElem?_take, List.getElem?_drop] at h1 h2
    by_cases hi : i < n
    · rw [if_pos hi] at h1 h2
      obtain ⟨v', q1, q2⟩ := VRs.get h _ _ h1
      rw [h2] at q1; cases q1; exact q2
    · rw [if_neg hi] at h1; cases h1

/-- A part of an aggregate. -/
theorem partK_ok {cx : Cx} (hcx : CxOk P cx) {ρ : Rho} {t off : Nat} {c : Cs} {vs : Array Value} {k : RV → RT} (hg : c.good) (hv : CRs ρ c.l vs.toList) (e : partK cx t c off k = .ok rv rh) :
    ∃ x v, RR ρ x v ∧ k x = .ok rv rh ∧ ∀ w, (part t vs off).run P w = .ok v w := by
  obtain ⟨d, hu, e⟩ := underK_ok hcx e
  have hlen : c.l.length = vs.size := by simpa [CRs] using VRs.length hv
  rcases dAgg_ok e with ⟨hd, e⟩ | ⟨hd, e⟩
  · obtain ⟨i, hi, e⟩ := tyK_ok hcx e
    obtain ⟨hfit, e⟩ := ifB_t e
    rw [c.size_eq hg, Nat.ble_eq] at hfit
    obtain ⟨c', hk, hg', hl⟩ := Cs.subK_gives hg off i.size
    rw [hk] at e
    refine ⟨.a c', .agg (vs.extract off (off + i.size)), .a c' _ hg' ?_, e, fun w => ?_⟩
    · rw [hl]
      have := CRs.sub hv off i.size
      simpa [List.extract_eq_take_drop] using this
    · unfold part
      rw [Sem.run_bind, run_isAgg hu w, hd]
      simp [run_sizeOf hi]
  · obtain ⟨x, hx, e⟩ := onSome_ok e
    rw [Cs.get_eq hg] at hx
    obtain ⟨v', q1, q2⟩ := VRs.get hv off x.toV (by simp [hx])
    refine ⟨.s x, v', .s x v' q2, e, fun w => ?_⟩
    unfold part
    rw [Sem.run_bind, run_isAgg hu w, hd]
    have : vs[off]? = some v' := by simpa using q1
    simp [this]

/-- A variable is loaded. -/
theorem loadK_ok {cx : Cx} (hcx : CxOk P cx) {ρ : Rho} {h : H} {w : World} {t a o b base ex : Nat} {k : RV → RT} (r : HR P ρ h w) (hρ : ρ a = some (b, base, ex)) (e : loadK cx t a o h k = .ok rv rh) :
    ∃ x v, RR ρ x v ∧ k x = .ok rv rh ∧ (loadVar t ⟨b, base + o, none⟩).run P w = .ok v w := by
  obtain ⟨ob, ho, e⟩ := getK_ok e
  obtain ⟨c, el, exact, fz, hob, e⟩ := oCells_ok e
  subst hob
  obtain ⟨b', base', ex', e1, e2⟩ := r.obj _ _ ho
  rw [hρ] at e1; cases e1
  obtain ⟨hg, arr, lo, hi, hb, hc, hex, hsz, hz⟩ := e2
  have hcell : ∀ i v', arr[base + i]? = some v' → w.cell? ⟨b, base + i, none⟩ = some v' := fun i v' h => by simp [World.cell?, hb, h]
  -- the known cells as an aggregate
  have hv : CRs ρ c.l ((arr.toList.drop base).take c.l.length) := by
    refine VRs.of_get ?_ fun i x y h1 h2 => ?_
    · simp; omega
    · have h1' : ∃ z, c.l[i]? = some z ∧ z.toV = x := by simpa [List.getElem?_map] using h1
      obtain ⟨z, hz1, hz2⟩ := h1'
      obtain ⟨v', q1, q2⟩ := hc i z hz1
      have hlt : i < c.l.length := (List.getElem?_eq_some_iff.1 hz1).1
      rw [List.getElem?_take, if_pos hlt, List.getElem?_drop] at h2
      have : arr.toList[base + i]? = some v' := by simpa using q1
      rw [this] at h2; cases h2
      rw [← hz2]; exact q2
  obtain ⟨d, hu, e⟩ := underK_ok hcx e
  rcases dAgg_ok e with ⟨hd, e⟩ | ⟨hd, e⟩
  · obtain ⟨i, hi', e⟩ := tyK_ok hcx e
    obtain ⟨hfit, e⟩ := ifB_t e
    rw [c.size_eq hg, Nat.ble_eq] at hfit
    obtain ⟨c', hk, hg', hl⟩ := Cs.subK_gives hg o i.size
    rw [hk] at e
    have hsub := CRs.sub hv o i.size
    have hlen2 : (((arr.toList.drop base).take c.l.length).drop o |>.take i.size).length = i.size := by simp; omega
    refine ⟨.a c', .agg (((arr.toList.drop base).take c.l.length).drop o |>.take i.size).toArray, .a c' _ hg' (by rw [hl]; simpa using hsub), e, ?_⟩
    refine run_loadVar_mid w b (base + o) t _ d (fun j v hj => ?_) hu hd (by rw [hi', hlen2]; rfl)
    rw [List.getElem?_take] at hj
    by_cases hjn : j < i.size
    · rw [if_pos hjn, List.getElem?_drop, List.getElem?_take, if_pos (by omega), List.getElem?_drop] at hj
      rw [show base + o + j = base + (o + j) by omega]
      exact hcell _ _ (by simpa using hj)
    · rw [if_neg hjn] at hj; cases hj
  · obtain ⟨x, hx, e⟩ := onSome_ok e
    rw [Cs.get_eq hg] at hx
    obtain ⟨v', q1, q2⟩ := hc o x hx
    refine ⟨.s x, v', .s x v' q2, e, ?_⟩
    unfold loadVar
    rw [Sem.run_bind, run_isAgg hu w, hd]
    have := hcell o v' q1
    simp [load, Sem.run, this]
end Go.Ev
end
section
/- Ev, soundness, part 6: whole numbers and texts. Conditions: none. -/
namespace Go.Ev
set_option linter.unusedVariables false
variable {P : Program} {rv : RV} {rh : H}

theorem wrapF_eq (k : IntKind) (n : Int) : wrapF k n = k.wrap n := by
  cases n with
  | negSucc m => rfl
  | ofNat m =>
    show ifB (Nat.blt m (half k)) (.ofNat m) (k.wrap (.ofNat m)) = _
    rw [blt_dec, ifB_dec]
    split
    · rename_i h
      cases k <;> simp [half] at h <;> simp [IntKind.wrap, IntKind.bits, IntKind.signed] <;> omega
    · rfl
theorem addF_eq (a b : Int) : addF a b = a + b := by cases a <;> cases b <;> rfl
theorem subF_eq (a b : Int) : subF a b = a - b := by
  cases a with
  | negSucc x => rfl
  | ofNat x => cases b with
    | negSucc y => rfl
    | ofNat y =>
      show ifB (Nat.ble y x) (.ofNat (Nat.sub x y)) (Int.sub (.ofNat x) (.ofNat y)) = _
      rw [ble_dec, ifB_dec]
      split
      · show ((x - y : Nat) : Int) = (x : Int) - (y : Int); omega
      · rfl
theorem mulF_eq (a b : Int) : mulF a b = a * b := by cases a <;> cases b <;> rfl
theorem ltF_eq (a b : Int) : ltF a b = decide (a < b) := by
  cases a with
  | negSucc x => cases b with
    | ofNat y => simp [ltF]; omega
    | negSucc y => show Nat.blt y x = _; rw [blt_dec]; congr 1; rw [eq_iff_iff]; omega
  | ofNat x => cases b with
    | ofNat y => show Nat.blt x y = _; rw [blt_dec]; congr 1; rw [eq_iff_iff]; simp
    | negSucc y => simp [ltF]; omega
theorem pow2_eq (k : IntKind) : pow2 k = 2 ^ k.bits := by cases k <;> rfl
theorem bitsOf_eq (k : IntKind) : bitsOf k = k.bits := by cases k <;> rfl
theorem shN_eq (k : IntKind) (y : Nat) : shN k y = min y k.bits := by
  show ifB (Nat.ble y (bitsOf k)) y (bitsOf k) = _
  rw [ble_dec, ifB_dec, bitsOf_eq]; split <;> omega

theorem binI_ok {o : BinOp} {k j : IntKind} {a b : Int} {t : TypeId} {q : Ce → RT} (e : binI o k a j b q = .ok rv rh) :
    ∃ c, q c = .ok rv rh ∧ (∀ ρ, CR ρ c c.toV) ∧ ∀ w, (binOp o t (.int k a) (.int j b)).run P w = .ok c.toV w := by
  have same : ∀ {x : RT} {w : String}, ifB (kindEq k j) x (.err w) = .ok rv rh → k = j ∧ x = .ok rv rh := fun h => let ⟨h1, h2⟩ := ifB_t h; ⟨kindEq_spec h1, h2⟩
  cases o
  case add => replace e := same e; obtain ⟨hk, e⟩ := e; subst hk; simp only [iAdd, intK_eq, wrapF_eq, addF_eq] at e; exact ⟨_, e, fun _ => (by first | exact VR.int _ _ | exact VR.bool _ | exact VR.str _), fun w => by simp [binOp, Op.intArith, Ce.toV]⟩
  case sub => replace e := same e; obtain ⟨hk, e⟩ := e; subst hk; simp only [iSub, intK_eq, wrapF_eq, subF_eq] at e; exact ⟨_, e, fun _ => (by first | exact VR.int _ _ | exact VR.bool _ | exact VR.str _), fun w => by simp [binOp, Op.intArith, Ce.toV]⟩
  case mul => replace e := same e; obtain ⟨hk, e⟩ := e; subst hk; simp only [iMul, intK_eq, wrapF_eq, mulF_eq] at e; exact ⟨_, e, fun _ => (by first | exact VR.int _ _ | exact VR.bool _ | exact VR.str _), fun w => by simp [binOp, Op.intArith, Ce.toV]⟩
  case quo =>
    replace e := same e; obtain ⟨hk, e⟩ := e; subst hk
    replace e := nn_ok e; obtain ⟨x, y, ha, hb, e⟩ := e; subst ha; subst hb
    obtain ⟨h0, e⟩ := ifB_e e
    simp only [wrapI, intK_eq, wrapF_eq] at e
    have hy : y ≠ 0 := fun h => by subst h; cases h0
    refine ⟨_, e, fun _ => (by first | exact VR.int _ _ | exact VR.bool _ | exact VR.str _), fun w => ?_⟩
    simp [binOp, Op.intDiv, Ce.toV, hy]
    rfl
  case rem =>
    replace e := same e; obtain ⟨hk, e⟩ := e; subst hk
    replace e := nn_ok e; obtain ⟨x, y, ha, hb, e⟩ := e; subst ha; subst hb
    obtain ⟨h0, e⟩ := ifB_e e
    simp only [natI, natK_eq] at e
    have hy : y ≠ 0 := fun h => by subst h; cases h0
    refine ⟨_, e, fun _ => (by first | exact VR.int _ _ | exact VR.bool _ | exact VR.str _), fun w => ?_⟩
    simp [binOp, Op.intDiv, Ce.toV, hy]
    rfl
  case and =>
    replace e := same e; obtain ⟨hk, e⟩ := e; subst hk
    replace e := nn_ok e; obtain ⟨x, y, ha, hb, e⟩ := e; subst ha; subst hb
    simp only [wrapI, intK_eq, wrapF_eq] at e
    refine ⟨_, e, fun _ => (by first | exact VR.int _ _ | exact VR.bool _ | exact VR.str _), fun w => ?_⟩
    simp [binOp, Op.intBits, Ce.toV, pow2_eq]
    rfl
  case or =>
    replace e := same e; obtain ⟨hk, e⟩ := e; subst hk
    replace e := nn_ok e; obtain ⟨x, y, ha, hb, e⟩ := e; subst ha; subst hb
    simp only [wrapI, intK_eq, wrapF_eq] at e
    refine ⟨_, e, fun _ => (by first | exact VR.int _ _ | exact VR.bool _ | exact VR.str _), fun w => ?_⟩
    simp [binOp, Op.intBits, Ce.toV, pow2_eq]
    rfl
  case xor =>
    replace e := same e; obtain ⟨hk, e⟩ := e; subst hk
    replace e := nn_ok e; obtain ⟨x, y, ha, hb, e⟩ := e; subst ha; subst hb
    simp only [wrapI, intK_eq, wrapF_eq] at e
    refine ⟨_, e, fun _ => (by first | exact VR.int _ _ | exact VR.bool _ | exact VR.str _), fun w => ?_⟩
    simp [binOp, Op.intBits, Ce.toV, pow2_eq]
    rfl
  case andNot =>
    replace e := same e; obtain ⟨hk, e⟩ := e; subst hk
    replace e := nn_ok e; obtain ⟨x, y, ha, hb, e⟩ := e; subst ha; subst hb
    simp only [wrapI, intK_eq, wrapF_eq] at e
    refine ⟨_, e, fun _ => (by first | exact VR.int _ _ | exact VR.bool _ | exact VR.str _), fun w => ?_⟩
    simp [binOp, Op.intBits, Ce.toV, pow2_eq, BitVec.toNat_not]
    rfl
  case shl =>
    replace e := nn_ok e; obtain ⟨x, y, ha, hb, e⟩ := e; subst ha; subst hb
    simp only [wrapI, intK_eq, wrapF_eq, shN_eq] at e
    refine ⟨_, e, fun _ => (by first | exact VR.int _ _ | exact VR.bool _ | exact VR.str _), fun w => ?_⟩
    have hn : ¬ ((y : Int) < 0) := by omega
    simp [binOp, Op.shift, Ce.toV, hn]
  case shr =>
    replace e := nn_ok e; obtain ⟨x, y, ha, hb, e⟩ := e; subst ha; subst hb
    simp only [natI, natK_eq, shN_eq] at e
    refine ⟨_, e, fun _ => (by first | exact VR.int _ _ | exact VR.bool _ | exact VR.str _), fun w => ?_⟩
    have hn : ¬ ((y : Int) < 0) := by omega
    simp [binOp, Op.shift, Ce.toV, hn]
    rw [Int.fdiv_eq_ediv_of_nonneg _ (by exact_mod_cast Nat.zero_le _)]
    rfl
  case eql => replace e := same e; obtain ⟨hk, e⟩ := e; subst hk; simp only [iEql, boolK_eq, natEqInt_eq] at e; exact ⟨_, e, fun _ => (by first | exact VR.int _ _ | exact VR.bool _ | exact VR.str _), fun w => by simp [binOp, Op.intCmp, Ce.toV]⟩
  case neq => replace e := same e; obtain ⟨hk, e⟩ := e; subst hk; simp only [iNeq, boolK_eq, natEqInt_eq, notB_eq] at e; exact ⟨_, e, fun _ => (by first | exact VR.int _ _ | exact VR.bool _ | exact VR.str _), fun w => by simp [binOp, Op.intCmp, Ce.toV, bne]⟩
  case lss => replace e := same e; obtain ⟨hk, e⟩ := e; subst hk; simp only [iLss, boolK_eq, ltF_eq] at e; exact ⟨_, e, fun _ => (by first | exact VR.int _ _ | exact VR.bool _ | exact VR.str _), fun w => by simp [binOp, Op.intCmp, Ce.toV]⟩
  case leq => replace e := same e; obtain ⟨hk, e⟩ := e; subst hk; simp only [iLeq, boolK_eq, ltF_eq, notB_eq] at e; exact ⟨_, e, fun _ => (by first | exact VR.int _ _ | exact VR.bool _ | exact VR.str _), fun w => by simp [binOp, Op.intCmp, Ce.toV, ← decide_not]⟩
  case gtr => replace e := same e; obtain ⟨hk, e⟩ := e; subst hk; simp only [iGtr, boolK_eq, ltF_eq] at e; exact ⟨_, e, fun _ => (by first | exact VR.int _ _ | exact VR.bool _ | exact VR.str _), fun w => by simp [binOp, Op.intCmp, Ce.toV]⟩
  case geq => replace e := same e; obtain ⟨hk, e⟩ := e; subst hk; simp only [iGeq, boolK_eq, ltF_eq, notB_eq] at e; exact ⟨_, e, fun _ => (by first | exact VR.int _ _ | exact VR.bool _ | exact VR.str _), fun w => by simp [binOp, Op.intCmp, Ce.toV, ← decide_not]⟩
end Go.Ev
end

/- An evaluator of programs by terms that the kernel reduces, and the laws that it tells the truth. Conditions: none. -/
import Derived.Calls
set_option linter.all false
section
/- Ev, part A: the data of an evaluator that the kernel reduces: ropes of cells, tries, values, an abstract heap. Conditions: none. -/
namespace Go.Ev
set_option linter.unusedVariables false

/-- A scalar: what is met most often stands by itself; a pointer's and a slice's block is a handle. -/
inductive Ce where
  | i (k : IntKind) (n : Int) : Ce
  | b (b : Bool) : Ce
  | p (h o : Nat) : Ce
  | sl (h o n c : Nat) : Ce
  | st (l : List UInt8) : Ce
  | v (w : Value) : Ce

/-- A rope of cells. -/
inductive Cs where
  | nil : Cs
  | rep (n : Nat) (v : Ce) : Cs
  | cat (n : Nat) (a b : Cs) : Cs

/-- A value of the evaluator: a scalar, an aggregate's cells, nothing, a pair (tuples are pairs that end in nothing). -/
inductive RV where
  | s (v : Ce) : RV
  | a (c : Cs) : RV
  | u : RV
  | p (x r : RV) : RV

/-- Temporaries. -/
inductive Env where
  | nil : Env
  | cons (n : Nat) (v : RV) (t : Env) : Env

/-- A map's entries. -/
inductive ML where
  | nil : ML
  | cons (k : Ce) (v : RV) (t : ML) : ML

/-- An object of the heap. Cells: the known ones, the element's type, is the capacity known, what may be written (0: no mark lies on the block; 1: one behind its last cell; n + 2: the first n + 1 cells are a text's). -/
inductive HObj where
  | cells (c : Cs) (elem : Nat) (ex : Bool) (fz : Nat) : HObj
  | map (l : ML) (ranged : Nat) : HObj
  | siter (s : List UInt8) (pos : Nat) : HObj
  | miter (m : Nat) : HObj

/-- A binary trie by number. -/
inductive Tr (α : Type) where
  | nil : Tr α
  | node (l : Tr α) (v : Option α) (r : Tr α) : Tr α

/-- The heap: its objects by handle, and the next handle. -/
inductive H where
  | mk (t : Tr HObj) (n : Nat) : H

/-- Deferred calls. -/
inductive Ds where
  | nil : Ds
  | cons (f : Ce) (args : List RV) (t : Ds) : Ds

/-- Inside a deferred call: what may be recovered. -/
inductive Rc where
  | no : Rc
  | pend (v : Ce) : Rc
  | done : Rc

/-- The answer. -/
inductive RT where
  | ok (v : RV) (h : H) : RT
  | pan (v : Ce) (h : H) : RT
  | err (why : String) : RT

noncomputable def ifB {α : Sort 1} (b : Bool) (t e : α) : α := Bool.rec (motive := fun _ => α) e t b

/-! ### numbers -/
noncomputable def iabs (a : Int) (k : Nat → RT) : RT := Int.rec (motive := fun _ => RT) k (fun _ => .err "negative") a

/-! ### ropes -/
noncomputable def Cs.size (c : Cs) : Nat := Cs.rec (motive := fun _ => Nat) 0 (fun n _ => n) (fun n _ _ _ _ => n) c

noncomputable def kindEq (a b : IntKind) : Bool := Nat.beq a.ctorIdx b.ctorIdx
noncomputable def natEqInt (a b : Int) : Bool :=
  Int.rec (motive := fun _ => Bool) (fun x => Int.rec (motive := fun _ => Bool) (fun y => Nat.beq x y) (fun _ => false) b) (fun x => Int.rec (motive := fun _ => Bool) (fun _ => false) (fun y => Nat.beq x y) b) a

/-- A scalar's parts, one kind at a time. -/
noncomputable def Ce.onI {α : Type} (c : Ce) (d : α) (k : IntKind → Int → α) : α := Ce.rec (motive := fun _ => α) k (fun _ => d) (fun _ _ => d) (fun _ _ _ _ => d) (fun _ => d) (fun _ => d) c
noncomputable def Ce.onB {α : Type} (c : Ce) (d : α) (k : Bool → α) : α := Ce.rec (motive := fun _ => α) (fun _ _ => d) k (fun _ _ => d) (fun _ _ _ _ => d) (fun _ => d) (fun _ => d) c
noncomputable def Ce.onP {α : Type} (c : Ce) (d : α) (k : Nat → Nat → α) : α := Ce.rec (motive := fun _ => α) (fun _ _ => d) (fun _ => d) k (fun _ _ _ _ => d) (fun _ => d) (fun _ => d) c
noncomputable def Ce.onSl {α : Type} (c : Ce) (d : α) (k : Nat → Nat → Nat → Nat → α) : α := Ce.rec (motive := fun _ => α) (fun _ _ => d) (fun _ => d) (fun _ _ => d) k (fun _ => d) (fun _ => d) c
noncomputable def Ce.onSt {α : Type} (c : Ce) (d : α) (k : List UInt8 → α) : α := Ce.rec (motive := fun _ => α) (fun _ _ => d) (fun _ => d) (fun _ _ => d) (fun _ _ _ _ => d) k (fun _ => d) c
noncomputable def Ce.onV {α : Type} (c : Ce) (d : α) (k : Value → α) : α := Ce.rec (motive := fun _ => α) (fun _ _ => d) (fun _ => d) (fun _ _ => d) (fun _ _ _ _ => d) (fun _ => d) k c

/-- Two scalars that are surely the same (whole numbers, truths, places). -/
noncomputable def sameS (a b : Ce) : Bool :=
  Ce.rec (motive := fun _ => Bool) (fun k m => b.onI false fun j n => ifB (kindEq k j) (natEqInt m n) false) (fun x => b.onB false fun y => Bool.rec (motive := fun _ => Bool) (Bool.rec (motive := fun _ => Bool) true false y) y x)
    (fun x y => b.onP false fun z w => ifB (Nat.beq x z) (Nat.beq y w) false) (fun _ _ _ _ => false) (fun _ => false) (fun _ => false) a

/-- A number, worked out. -/
noncomputable def natK {α : Type} (n : Nat) (k : Nat → α) : α := Nat.rec (motive := fun _ => α) (k 0) (fun m _ => k (Nat.succ m)) n

/-- Two ropes, one behind the other. -/
noncomputable def Cs.catK (a b : Cs) (k : Cs → RT) : RT := natK (a.size + b.size) fun s => k (.cat s a b)
noncomputable def Cs.mkK (a : Cs) : Cs → (Cs → RT) → RT :=
  Cs.rec (motive := fun _ => Cs → (Cs → RT) → RT) (fun b k => k b)
    (fun n v b k => Cs.rec (motive := fun _ => RT) (k (.rep n v)) (fun m w => ifB (sameS v w) (natK (n + m) fun s => k (.rep s v)) (natK (n + m) fun s => k (.cat s (.rep n v) (.rep m w)))) (fun m x y _ _ => ifB (Nat.beq n 0) (k (.cat m x y)) (natK (n + m) fun s => k (.cat s (.rep n v) (.cat m x y)))) b)
    (fun n x y ihx _ b k => ifB (Nat.beq b.size 0) (k (.cat n x y)) (ifB (Nat.ble n b.size) (natK (n + b.size) fun s => k (.cat s (.cat n x y) b)) (ifB (Nat.ble y.size b.size) (natK (y.size + b.size) fun s => ihx (.cat s y b) k) (natK (n + b.size) fun s => k (.cat s (.cat n x y) b))))) a

noncomputable def Cs.get (c : Cs) : Nat → Option Ce :=
  Cs.rec (motive := fun _ => Nat → Option Ce) (fun _ => none) (fun n v i => ifB (Nat.blt i n) (some v) none)
    (fun _ a _ ga gb i => ifB (Nat.blt i a.size) (ga i) (gb (i - a.size))) c

noncomputable def Cs.takeK (c : Cs) : Nat → (Cs → RT) → RT :=
  Cs.rec (motive := fun _ => Nat → (Cs → RT) → RT) (fun _ k => k .nil) (fun n v j k => ifB (Nat.ble n j) (k (.rep n v)) (ifB (Nat.beq j 0) (k .nil) (natK j fun j => k (.rep j v))))
    (fun n a b ta tb j k => ifB (Nat.ble n j) (k (.cat n a b)) (ifB (Nat.ble j a.size) (ta j k) (tb (j - a.size) fun b => a.catK b k))) c

noncomputable def Cs.dropK (c : Cs) : Nat → (Cs → RT) → RT :=
  Cs.rec (motive := fun _ => Nat → (Cs → RT) → RT) (fun _ k => k .nil) (fun n v j k => ifB (Nat.ble n j) (k .nil) (natK (n - j) fun j => k (.rep j v)))
    (fun n a b da db j k => ifB (Nat.beq j 0) (k (.cat n a b)) (ifB (Nat.ble n j) (k .nil) (ifB (Nat.ble a.size j) (db (j - a.size) k) (da j fun a => a.catK b k)))) c

/-- The cells from off on, so many. -/
noncomputable def Cs.subK (c : Cs) (off n : Nat) (k : Cs → RT) : RT := c.dropK off fun c => c.takeK n k
/-- Is it a run of this value alone? -/
noncomputable def Cs.isRep (x : Cs) (v : Ce) : Bool := Cs.rec (motive := fun _ => Bool) false (fun _ w => sameS v w) (fun _ _ _ _ _ => false) x
/-- Cells laid over a run of one value. -/
noncomputable def repSpliceK (fuel : Nat) (v : Ce) : Nat → Nat → Cs → (Cs → RT) → RT :=
  Nat.rec (motive := fun _ => Nat → Nat → Cs → (Cs → RT) → RT) (fun _ _ _ _ => .err "splice: fuel")
    (fun _ ih n off x k => ifB (Nat.beq x.size n) (k x) (natK (n / 2) fun m => natK (n - m) fun r =>
      ifB (Nat.ble (off + x.size) m) (natK off fun off => ih m off x fun a => k (.cat n a (.rep r v)))
        (ifB (Nat.ble m off) (natK (off - m) fun off => ih r off x fun b => k (.cat n (.rep m v) b))
          (x.takeK (m - off) fun xa => x.dropK (m - off) fun xb => ih m off xa fun a => ih r 0 xb fun b => k (.cat n a b))))) fuel
/-- Cells laid over others, from a place on; they must fit. -/
noncomputable def Cs.spliceK (c : Cs) : Nat → Cs → (Cs → RT) → RT :=
  Cs.rec (motive := fun _ => Nat → Cs → (Cs → RT) → RT) (fun _ _ k => k .nil)
    (fun n v off x k => ifB (Nat.beq x.size 0) (k (.rep n v)) (ifB (x.isRep v) (k (.rep n v)) (repSpliceK n v n off x k)))
    (fun n a b ia ib off x k => ifB (Nat.beq x.size n) (k x) (ifB (Nat.ble (off + x.size) a.size) (ia off x fun a => k (.cat n a b))
      (ifB (Nat.ble a.size off) (natK (off - a.size) fun off => ib off x fun b => k (.cat n a b))
        (natK (a.size - off) fun j => x.takeK j fun xa => x.dropK j fun xb => ia off xa fun a => ib 0 xb fun b => k (.cat n a b))))) c

noncomputable def Cs.ofListK (l : List Ce) (k : Cs → RT) : RT := List.rec (motive := fun _ => Cs → RT) k (fun v _ ih a => a.mkK (.rep 1 v) ih) l .nil

noncomputable def Cs.timesK (n : Nat) (c : Cs) (k : Cs → RT) : RT :=
  Cs.rec (motive := fun _ => RT) (k .nil) (fun m v => natK (n * m) fun s => k (.rep s v)) (fun m a b _ _ => Nat.rec (motive := fun _ => Cs → RT) k (fun _ ih acc => acc.mkK (.cat m a b) ih) n .nil) c

noncomputable def Cs.toL (c : Cs) : List Ce :=
  Cs.rec (motive := fun _ => List Ce → List Ce) (fun l => l) (fun n v l => Nat.rec (motive := fun _ => List Ce) l (fun _ ih => v :: ih) n) (fun _ _ _ fa fb l => fa (fb l)) c []

/-! ### tries -/
noncomputable def Tr.get {α : Type} (t : Tr α) : Nat → Option α :=
  Tr.rec (motive := fun _ => Nat → Option α) (fun _ => none)
    (fun _ v _ gl gr n => Nat.rec (motive := fun _ => Option α) v (fun m _ => ifB (Nat.beq (m % 2) 0) (gl (m / 2)) (gr (m / 2))) n) t

/-- A trie with one entry. -/
noncomputable def Tr.one {α : Type} (fuel : Nat) (x : α) : Nat → Tr α :=
  Nat.rec (motive := fun _ => Nat → Tr α) (fun _ => .node .nil (some x) .nil)
    (fun _ ih n => Nat.rec (motive := fun _ => Tr α) (.node .nil (some x) .nil) (fun m _ => ifB (Nat.beq (m % 2) 0) (.node (ih (m / 2)) none .nil) (.node .nil none (ih (m / 2)))) n) fuel

/-- Sets an entry, and goes on. -/
noncomputable def Tr.setK {α : Type} (t : Tr α) (x : α) : Nat → (Tr α → RT) → RT :=
  Tr.rec (motive := fun _ => Nat → (Tr α → RT) → RT) (fun n k => k (Tr.one n x n))
    (fun l v r il ir n k => Nat.rec (motive := fun _ => RT) (k (.node l (some x) r))
      (fun m _ => ifB (Nat.beq (m % 2) 0) (il (m / 2) (fun l' => k (.node l' v r))) (ir (m / 2) (fun r' => k (.node l v r')))) n) t

/-- Takes an entry away, and goes on. -/
noncomputable def Tr.delK {α : Type} (t : Tr α) : Nat → (Tr α → RT) → RT :=
  Tr.rec (motive := fun _ => Nat → (Tr α → RT) → RT) (fun _ k => k .nil)
    (fun l v r il ir n k => Nat.rec (motive := fun _ => RT) (k (.node l none r))
      (fun m _ => ifB (Nat.beq (m % 2) 0) (il (m / 2) (fun l' => k (.node l' v r))) (ir (m / 2) (fun r' => k (.node l v r')))) n) t

/-! ### the heap -/
noncomputable def H.getK (h : H) (a : Nat) (k : HObj → RT) : RT :=
  H.rec (motive := fun _ => RT) (fun t _ => Option.rec (motive := fun _ => RT) (.err "no such object") k (t.get a)) h

noncomputable def H.setK (h : H) (a : Nat) (o : HObj) (k : H → RT) : RT :=
  H.rec (motive := fun _ => RT) (fun t n => t.setK o a (fun t' => k (.mk t' n))) h

noncomputable def H.delK (h : H) (a : Nat) (k : H → RT) : RT :=
  H.rec (motive := fun _ => RT) (fun t n => t.delK a (fun t' => k (.mk t' n))) h

/-- A new object: its handle. -/
noncomputable def H.newK (h : H) (o : HObj) (k : Nat → H → RT) : RT :=
  H.rec (motive := fun _ => RT) (fun t n => t.setK o n (fun t' => natK (n + 1) fun m => k n (.mk t' m))) h

noncomputable def H.nx (h : H) : Nat := H.rec (motive := fun _ => Nat) (fun _ n => n) h

/-! ### temporaries -/
noncomputable def Env.getK (e : Env) (n : Nat) (k : RV → RT) : RT :=
  Env.rec (motive := fun _ => RT) (.err "no such temporary") (fun m v _ ih => ifB (Nat.beq m n) (k v) ih) e

noncomputable def Env.setK (e : Env) (n : Nat) (v : RV) (k : Env → RT) : RT :=
  Env.rec (motive := fun _ => (Env → RT) → RT) (fun k => k (.cons n v .nil)) (fun m w t ih k => ifB (Nat.beq m n) (k (.cons n v t)) (ih (fun t1 => k (.cons m w t1)))) e k

/-! ### what a value is -/
noncomputable def onS (x : RV) (k : Ce → RT) : RT := RV.rec (motive := fun _ => RT) k (fun _ => .err "scalar expected: aggregate") (.err "scalar expected: nothing") (fun _ _ _ _ => .err "scalar expected: tuple") x
noncomputable def onA (x : RV) (k : Cs → RT) : RT := RV.rec (motive := fun _ => RT) (fun _ => .err "aggregate expected") k (.err "aggregate expected") (fun _ _ _ _ => .err "aggregate expected") x
noncomputable def onP (x : RV) (k : RV → RV → RT) : RT := RV.rec (motive := fun _ => RT) (fun _ => .err "tuple expected") (fun _ => .err "tuple expected") (.err "tuple expected") (fun x r _ _ => k x r) x
/-- A value's cells. -/
noncomputable def cellsK (x : RV) (k : Cs → RT) : RT := RV.rec (motive := fun _ => RT) (fun v => k (.rep 1 v)) k (.err "cells expected") (fun _ _ _ _ => .err "cells expected") x

noncomputable def onBool (c : Ce) (k : Bool → RT) : RT := c.onB (.err "bool expected") k
noncomputable def onInt (c : Ce) (k : IntKind → Int → RT) : RT := c.onI (.err "int expected") k
noncomputable def onStr (c : Ce) (k : List UInt8 → RT) : RT := c.onSt (.err "string expected") k
noncomputable def eP : RT := .err "pointer expected"
/-- A pointer: nil, or a place. -/
noncomputable def onPtr (c : Ce) (kn : RT) (k : Nat → Nat → RT) : RT :=
  Ce.rec (motive := fun _ => RT) (fun _ _ => eP) (fun _ => eP) k (fun _ _ _ _ => eP) (fun _ => eP)
    (fun w => Value.casesOn (motive_1 := fun _ => RT) w (fun _ => eP) (fun _ _ => eP) (fun _ _ => eP) (fun _ _ _ => eP) (fun _ => eP) (fun a => Option.rec (motive := fun _ => RT) kn (fun _ => eP) a) (fun _ _ _ => eP) (fun _ => eP) (fun _ => eP) (fun _ _ _ => eP) eP (fun _ _ => eP) eP (fun _ => eP) (fun _ => eP)) c
noncomputable def eSl : RT := .err "slice expected"
/-- A slice: nil, or a row. -/
noncomputable def onSl (c : Ce) (kn : Nat → Nat → RT) (k : Nat → Nat → Nat → Nat → RT) : RT :=
  Ce.rec (motive := fun _ => RT) (fun _ _ => eSl) (fun _ => eSl) (fun _ _ => eSl) k (fun _ => eSl)
    (fun w => Value.casesOn (motive_1 := fun _ => RT) w (fun _ => eSl) (fun _ _ => eSl) (fun _ _ => eSl) (fun _ _ _ => eSl) (fun _ => eSl) (fun _ => eSl) (fun a n m => Option.rec (motive := fun _ => RT) (kn n m) (fun _ => eSl) a) (fun _ => eSl) (fun _ => eSl) (fun _ _ _ => eSl) eSl (fun _ _ => eSl) eSl (fun _ => eSl) (fun _ => eSl)) c
noncomputable def eM : RT := .err "map expected"
noncomputable def onMap (c : Ce) (k : Option Nat → RT) : RT := c.onV eM fun v => Value.casesOn (motive_1 := fun _ => RT) v (fun _ => eM) (fun _ _ => eM) (fun _ _ => eM) (fun _ _ _ => eM) (fun _ => eM) (fun _ => eM) (fun _ _ _ => eM) k (fun _ => eM) (fun _ _ _ => eM) eM (fun _ _ => eM) eM (fun _ => eM) (fun _ => eM)
noncomputable def eF : RT := .err "function expected"
noncomputable def onFn (c : Ce) (k : Fn → Array Value → Array Value → RT) : RT := c.onV eF fun v => Value.casesOn (motive_1 := fun _ => RT) v (fun _ => eF) (fun _ _ => eF) (fun _ _ => eF) (fun _ _ _ => eF) (fun _ => eF) (fun _ => eF) (fun _ _ _ => eF) (fun _ => eF) (fun _ => eF) k eF (fun _ _ => eF) eF (fun _ => eF) (fun _ => eF)
noncomputable def eIf : RT := .err "interface value expected"
noncomputable def vIface (v : Value) (k : Nat → Value → RT) (kn : RT) : RT := Value.casesOn (motive_1 := fun _ => RT) v (fun _ => eIf) (fun _ _ => eIf) (fun _ _ => eIf) (fun _ _ _ => eIf) (fun _ => eIf) (fun _ => eIf) (fun _ _ _ => eIf) (fun _ => eIf) (fun _ => eIf) (fun _ _ _ => eIf) eIf k kn (fun _ => eIf) (fun _ => eIf)
noncomputable def onIface (c : Ce) (k : Nat → Value → RT) (kn : RT) : RT := c.onV eIf fun v => vIface v k kn
noncomputable def onSome {α : Type} (o : Option α) (why : String) (k : α → RT) : RT := Option.rec (motive := fun _ => RT) (.err why) k o
/-- A pointer that is not nil. -/
noncomputable def onPlace (x : RV) (k : Nat → Nat → RT) : RT := onS x fun v => onPtr v (.err "nil pointer") k

/-- A number, worked out. -/
noncomputable def intK (n : Int) (k : Int → RT) : RT := Int.rec (motive := fun _ => RT) (fun m => natK m fun m => k (.ofNat m)) (fun m => natK m fun m => k (.negSucc m)) n
/-- An address that is a value's part: its handle and its place. -/
noncomputable def onAddr (a : Addr) (k : Nat → Nat → RT) : RT := Addr.rec (motive := fun _ => RT) (fun b o s => Option.rec (motive := fun _ => RT) (k b o) (fun _ => .err "address with a spot") s) a
noncomputable def eTo : RT := .err "a value that the evaluator does not know"
/-- A value of the model, as a scalar of the evaluator's (its addresses are handles). -/
noncomputable def toCeK (v : Value) (k : Ce → RT) : RT := Value.casesOn (motive_1 := fun _ => RT) v (fun b => k (.b b)) (fun j n => intK n fun n => k (.i j n)) (fun _ _ => eTo) (fun _ _ _ => eTo) (fun x => k (.st x.data.toList)) (fun a => Option.rec (motive := fun _ => RT) (k (.v (.pointer none))) (fun a => onAddr a fun b o => k (.p b o)) a) (fun a n m => Option.rec (motive := fun _ => RT) (k (.v (.slice none n m))) (fun a => onAddr a fun b o => k (.sl b o n m)) a) (fun r => k (.v (.map r))) (fun _ => eTo) (fun f a b => k (.v (.func f a b))) (k (.v .nilFunc)) (fun t v => k (.v (.iface t v))) (k (.v .nilIface)) (fun _ => eTo) (fun _ => eTo)
noncomputable def toCsK (l : List Value) : Cs → (Cs → RT) → RT := List.rec (motive := fun _ => Cs → (Cs → RT) → RT) (fun c k => k c) (fun v _ ih c k => toCeK v fun x => c.mkK (.rep 1 x) fun c => ih c k) l
noncomputable def toRVK (v : Value) (k : RV → RT) : RT := (fun (e : RT) => Value.casesOn (motive_1 := fun _ => RT) v (fun _ => e) (fun _ _ => e) (fun _ _ => e) (fun _ _ _ => e) (fun _ => e) (fun _ => e) (fun _ _ _ => e) (fun _ => e) (fun _ => e) (fun _ _ _ => e) e (fun _ _ => e) e (fun cs => toCsK cs.toList .nil fun c => k (.a c)) (fun _ => eTo)) (toCeK v fun c => k (.s c))
/-- A constant: no address stands in it. -/
noncomputable def cst (v : Value) (k : RV → RT) : RT := Value.casesOn (motive_1 := fun _ => RT) v (fun b => k (.s (.b b))) (fun j n => intK n fun n => k (.s (.i j n))) (fun _ _ => eTo) (fun _ _ _ => eTo) (fun x => k (.s (.st x.data.toList))) (fun a => Option.rec (motive := fun _ => RT) (k (.s (.v (.pointer none)))) (fun _ => eTo) a) (fun a n m => Option.rec (motive := fun _ => RT) (k (.s (.v (.slice none n m)))) (fun _ => eTo) a) (fun r => Option.rec (motive := fun _ => RT) (k (.s (.v (.map none)))) (fun _ => eTo) r) (fun _ => eTo) (fun _ _ _ => eTo) (k (.s (.v .nilFunc))) (fun _ _ => eTo) (k (.s (.v .nilIface))) (fun _ => eTo) (fun _ => eTo)
/-- What lies in one cell; a value of more cells is none (nothing stands to a float). -/
def oneV (w : Value) : Value :=
  match w with
  | .agg _ => .float .f64 0
  | .tuple _ => .float .f64 0
  | w => w
/-- A scalar, as a value of the model. -/
def Ce.toV (c : Ce) : Value :=
  match c with
  | .i k n => .int k n
  | .b x => .bool x
  | .p h o => .pointer (some ⟨h, o, none⟩)
  | .sl h o n m => .slice (some ⟨h, o, none⟩) n m
  | .st l => .string ⟨⟨l⟩⟩
  | .v w => oneV w
noncomputable def mapToV (l : List Ce) : List Value := List.rec (motive := fun _ => List Value) [] (fun c _ ih => c.toV :: ih) l

end Go.Ev
end
section
/- Ev, part B: the evaluator: what each operation, each statement and each call comes to on the abstract heap. Conditions: none. -/
namespace Go.Ev
set_option linter.unusedVariables false

/-- What goes with a frame: its deferred calls, and what may be recovered. -/
inductive F where
  | mk (ds : Ds) (rc : Rc) : F
abbrev KV := RV → H → RT
abbrev KP := Ce → H → RT
abbrev CallT := Nat → List RV → H → KV → KP → RT
abbrev KE := Env → F → H → RT
abbrev KQ := Env → F → Ce → H → RT
/-- A region that is told in another way. -/
abbrev RG := CallT → Env → F → H → KE → KQ → RT
/-- What an operation of a drawing region is: it looks at no memory; it loads (and may stand after so many effects at least, so many at most); it acts. -/
inductive Dk where
  | pure : Dk
  | load (lo hi : Nat) : Dk
  | eff : Dk
/-- What stands behind a function's number: a function of the program, or one that the evaluator answers by itself. -/
inductive Entry where
  | fn (f : Func) (hk keep : Nat) (dr : Tr (List Dk)) (rs : Tr RG) : Entry
  | ext (k : Nat) : Entry

/-- What the evaluator knows of the program (and of which types a variable lies at the beginning of one of another type). -/
inductive Cx where
  | mk (fn : Tr Entry) (ty : Tr TypeInfo) (ls : List (Nat × Nat)) : Cx

noncomputable def tyK (cx : Cx) (t : Nat) (k : TypeInfo → RT) : RT :=
  Cx.rec (motive := fun _ => RT) (fun _ ty _ => onSome (ty.get t) "no such type" k) cx

noncomputable def entK (cx : Cx) (f : Nat) (k : Entry → RT) : RT :=
  Cx.rec (motive := fun _ => RT) (fun fn _ _ => onSome (fn.get f) "no such function" k) cx

/-- A variable of the type u lies at the beginning of one of the type e. -/
noncomputable def liesL (e u : Nat) (ls : List (Nat × Nat)) : Bool := List.rec (motive := fun _ => Bool) false (fun p _ ih => ifB (Nat.beq p.1 e) (ifB (Nat.beq p.2 u) true ih) ih) ls
noncomputable def liesK (cx : Cx) (e u : Nat) (k : RT) : RT := Cx.rec (motive := fun _ => RT) (fun _ _ ls => ifB (liesL e u ls) k (.err "a pointer seen as another type")) cx

/-! ### types -/
noncomputable def eT : RT := .err "another type expected"
noncomputable def dNamed (d : TypeDesc) (k : TypeDesc → RT) (kn : Nat → RT) : RT :=
  TypeDesc.rec (motive := fun _ => RT) (k .invalid) (k .bool) (fun j => k (.int j)) (fun j => k (.float j)) (fun j => k (.complex j)) (k .string) (k .unsafePointer) (fun e => k (.pointer e)) (fun e => k (.slice e)) (fun n e => k (.array n e)) (fun a b => k (.map a b)) (fun a b => k (.chan a b)) (fun fs => k (.struct fs)) (fun a b c => k (.func a b c)) (fun ms => k (.interface ms)) (fun a => k (.tuple a)) (fun _ u => kn u) d
/-- A type's own description, names taken off. -/
noncomputable def underK (cx : Cx) (t : Nat) (k : TypeDesc → RT) : RT :=
  tyK cx t fun i => dNamed i.desc k fun u => tyK cx u fun j => k j.desc
noncomputable def dSlice (d : TypeDesc) (k : Nat → RT) : RT :=
  TypeDesc.rec (motive := fun _ => RT) eT eT (fun _ => eT) (fun _ => eT) (fun _ => eT) eT eT (fun _ => eT) k (fun _ _ => eT) (fun _ _ => eT) (fun _ _ => eT) (fun _ => eT) (fun _ _ _ => eT) (fun _ => eT) (fun _ => eT) (fun _ _ => eT) d
noncomputable def dStruct (d : TypeDesc) (k : Array Field → RT) : RT :=
  TypeDesc.rec (motive := fun _ => RT) eT eT (fun _ => eT) (fun _ => eT) (fun _ => eT) eT eT (fun _ => eT) (fun _ => eT) (fun _ _ => eT) (fun _ _ => eT) (fun _ _ => eT) k (fun _ _ _ => eT) (fun _ => eT) (fun _ => eT) (fun _ _ => eT) d
noncomputable def dArr (d : TypeDesc) (k : Nat → Nat → RT) (ke : RT) : RT :=
  TypeDesc.rec (motive := fun _ => RT) ke ke (fun _ => ke) (fun _ => ke) (fun _ => ke) ke ke (fun _ => ke) (fun _ => ke) k (fun _ _ => ke) (fun _ _ => ke) (fun _ => ke) (fun _ _ _ => ke) (fun _ => ke) (fun _ => ke) (fun _ _ => ke) d
noncomputable def dPtr (d : TypeDesc) (k : Nat → RT) : RT :=
  TypeDesc.rec (motive := fun _ => RT) eT eT (fun _ => eT) (fun _ => eT) (fun _ => eT) eT eT k (fun _ => eT) (fun _ _ => eT) (fun _ _ => eT) (fun _ _ => eT) (fun _ => eT) (fun _ _ _ => eT) (fun _ => eT) (fun _ => eT) (fun _ _ => eT) d
noncomputable def dMap (d : TypeDesc) (k : Nat → Nat → RT) : RT :=
  TypeDesc.rec (motive := fun _ => RT) eT eT (fun _ => eT) (fun _ => eT) (fun _ => eT) eT eT (fun _ => eT) (fun _ => eT) (fun _ _ => eT) k (fun _ _ => eT) (fun _ => eT) (fun _ _ _ => eT) (fun _ => eT) (fun _ => eT) (fun _ _ => eT) d
noncomputable def dInt (d : TypeDesc) (k : IntKind → RT) (ke : RT) : RT :=
  TypeDesc.rec (motive := fun _ => RT) ke ke k (fun _ => ke) (fun _ => ke) ke ke (fun _ => ke) (fun _ => ke) (fun _ _ => ke) (fun _ _ => ke) (fun _ _ => ke) (fun _ => ke) (fun _ _ _ => ke) (fun _ => ke) (fun _ => ke) (fun _ _ => ke) d
noncomputable def dStr (d : TypeDesc) (k : RT) (ke : RT) : RT :=
  TypeDesc.rec (motive := fun _ => RT) ke ke (fun _ => ke) (fun _ => ke) (fun _ => ke) k ke (fun _ => ke) (fun _ => ke) (fun _ _ => ke) (fun _ _ => ke) (fun _ _ => ke) (fun _ => ke) (fun _ _ _ => ke) (fun _ => ke) (fun _ => ke) (fun _ _ => ke) d
noncomputable def dIface (d : TypeDesc) (k : RT) (ke : RT) : RT :=
  TypeDesc.rec (motive := fun _ => RT) ke ke (fun _ => ke) (fun _ => ke) (fun _ => ke) ke ke (fun _ => ke) (fun _ => ke) (fun _ _ => ke) (fun _ _ => ke) (fun _ _ => ke) (fun _ => ke) (fun _ _ _ => ke) (fun _ => k) (fun _ => ke) (fun _ _ => ke) d
/-- Does a value of the type lie in memory as an aggregate? -/
noncomputable def dAgg (d : TypeDesc) (k : RT) (ke : RT) : RT :=
  TypeDesc.rec (motive := fun _ => RT) ke ke (fun _ => ke) (fun _ => ke) (fun _ => ke) ke ke (fun _ => ke) (fun _ => ke) (fun _ _ => k) (fun _ _ => ke) (fun _ _ => ke) (fun _ => k) (fun _ _ _ => ke) (fun _ => ke) (fun _ => ke) (fun _ _ => ke) d

/-- A type's zero value, as cells. -/
noncomputable def zeroK (cx : Cx) (fuel : Nat) : Nat → (Cs → RT) → RT :=
  Nat.rec (motive := fun _ => Nat → (Cs → RT) → RT) (fun _ _ => .err "zero: fuel")
    (fun _ ih t k => underK cx t fun d =>
      TypeDesc.rec (motive := fun _ => RT) eT (k (.rep 1 (.b false))) (fun j => k (.rep 1 (.i j (.ofNat 0)))) (fun _ => eT) (fun _ => eT) (k (.rep 1 (.st []))) (k (.rep 1 (.v (.pointer none)))) (fun _ => k (.rep 1 (.v (.pointer none)))) (fun _ => k (.rep 1 (.v (.slice none 0 0))))
        (fun n e => ih e fun c => Cs.timesK n c k) (fun _ _ => k (.rep 1 (.v (.map none)))) (fun _ _ => k (.rep 1 (.v (.chan none))))
        (fun fs => List.rec (motive := fun _ => Cs → RT) k (fun f _ go c => ih f.type fun x => c.mkK x go) fs.toList .nil)
        (fun _ _ _ => k (.rep 1 (.v .nilFunc))) (fun _ => k (.rep 1 (.v .nilIface))) (fun _ => eT) (fun _ _ => eT) d) fuel

/-- A part of cells, as a value of a type. -/
noncomputable def partK (cx : Cx) (t : Nat) (c : Cs) (off : Nat) (k : RV → RT) : RT :=
  underK cx t fun d => dAgg d (tyK cx t fun i => ifB (Nat.ble (off + i.size) c.size) (c.subK off i.size fun c => k (.a c)) (.err "part: too short")) (onSome (c.get off) "part: no such cell" fun v => k (.s v))

/-! ### memory -/
noncomputable def oCells (o : HObj) (k : Cs → Nat → Bool → Nat → RT) : RT := HObj.rec (motive := fun _ => RT) k (fun _ _ => .err "cells expected") (fun _ _ => .err "cells expected") (fun _ => .err "cells expected") o
noncomputable def oMap (o : HObj) (k : ML → Nat → RT) : RT := HObj.rec (motive := fun _ => RT) (fun _ _ _ _ => .err "a map expected") k (fun _ _ => .err "a map expected") (fun _ => .err "a map expected") o
noncomputable def oIter (o : HObj) (k : List UInt8 → Nat → RT) : RT := HObj.rec (motive := fun _ => RT) (fun _ _ _ _ => .err "an iterator expected") (fun _ _ => .err "an iterator expected") k (fun _ => .err "an iterator expected") o
noncomputable def oMiter (o : HObj) (k : Nat → RT) : RT := HObj.rec (motive := fun _ => RT) (fun _ _ _ _ => .err "a map's iterator expected") (fun _ _ => .err "a map's iterator expected") (fun _ _ => .err "a map's iterator expected") k o

noncomputable def loadK (cx : Cx) (t : Nat) (b o : Nat) (h : H) (k : RV → RT) : RT :=
  h.getK b fun ob => oCells ob fun c _ _ _ => partK cx t c o k

/-- Writes cells. -/
noncomputable def writeK (b o : Nat) (x : Cs) (h : H) (k : H → RT) : RT :=
  h.getK b fun ob => oCells ob fun c e ex fz => ifB (Nat.ble fz (Nat.succ o)) (ifB (Nat.ble (o + x.size) c.size) (c.spliceK o x fun c => h.setK b (.cells c e ex fz) k) (.err "write: beyond the block")) (.err "write: frozen cells")

noncomputable def storeK (cx : Cx) (t : Nat) (b o : Nat) (x : RV) (h : H) (k : H → RT) : RT :=
  cellsK x fun xc => tyK cx t fun i => ifB (Nat.beq xc.size i.size) (writeK b o xc h k) (.err "store: another size")

/-! ### numbers -/
noncomputable def half (k : IntKind) : Nat := IntKind.rec (motive := fun _ => Nat) 128 32768 2147483648 9223372036854775808 128 32768 2147483648 9223372036854775808 k
noncomputable def wrapF (k : IntKind) (n : Int) : Int :=
  Int.rec (motive := fun _ => Int) (fun m => ifB (Nat.blt m (half k)) (.ofNat m) (k.wrap (.ofNat m))) (fun m => k.wrap (.negSucc m)) n
noncomputable def addF (a b : Int) : Int := Int.rec (motive := fun _ => Int) (fun x => Int.rec (motive := fun _ => Int) (fun y => .ofNat (Nat.add x y)) (fun y => Int.add (.ofNat x) (.negSucc y)) b) (fun x => Int.add (.negSucc x) b) a
noncomputable def subF (a b : Int) : Int := Int.rec (motive := fun _ => Int) (fun x => Int.rec (motive := fun _ => Int) (fun y => ifB (Nat.ble y x) (.ofNat (Nat.sub x y)) (Int.sub (.ofNat x) (.ofNat y))) (fun y => Int.sub (.ofNat x) (.negSucc y)) b) (fun x => Int.sub (.negSucc x) b) a
noncomputable def mulF (a b : Int) : Int := Int.rec (motive := fun _ => Int) (fun x => Int.rec (motive := fun _ => Int) (fun y => .ofNat (Nat.mul x y)) (fun y => Int.mul (.ofNat x) (.negSucc y)) b) (fun x => Int.mul (.negSucc x) b) a
noncomputable def ltF (a b : Int) : Bool := Int.rec (motive := fun _ => Bool) (fun x => Int.rec (motive := fun _ => Bool) (fun y => Nat.blt x y) (fun _ => false) b) (fun x => Int.rec (motive := fun _ => Bool) (fun _ => true) (fun y => Nat.blt y x) b) a
noncomputable def notB (b : Bool) : Bool := Bool.rec (motive := fun _ => Bool) true false b
noncomputable def andB (a b : Bool) : Bool := Bool.rec (motive := fun _ => Bool) false b a
/-- Two numbers from 0 on. -/
noncomputable def nn (a b : Int) (k : Nat → Nat → RT) : RT := Int.rec (motive := fun _ => RT) (fun x => Int.rec (motive := fun _ => RT) (fun y => k x y) (fun _ => .err "negative number") b) (fun _ => .err "negative number") a
noncomputable def bitsOf (k : IntKind) : Nat := IntKind.rec (motive := fun _ => Nat) 8 16 32 64 8 16 32 64 k
noncomputable def pow2 (k : IntKind) : Nat := IntKind.rec (motive := fun _ => Nat) 256 65536 4294967296 18446744073709551616 256 65536 4294967296 18446744073709551616 k

abbrev IT := IntKind → Int → Int → (Ce → RT) → RT
noncomputable def boolK (b : Bool) (k : Bool → RT) : RT := Bool.rec (motive := fun _ => RT) (k false) (k true) b
noncomputable def iAdd : IT := fun k a b q => intK (wrapF k (addF a b)) fun n => q (.i k n)
noncomputable def iSub : IT := fun k a b q => intK (wrapF k (subF a b)) fun n => q (.i k n)
noncomputable def iMul : IT := fun k a b q => intK (wrapF k (mulF a b)) fun n => q (.i k n)
noncomputable def natI (k : IntKind) (m : Nat) (q : Ce → RT) : RT := natK m fun n => q (.i k (.ofNat n))
noncomputable def wrapI (k : IntKind) (m : Nat) (q : Ce → RT) : RT := intK (wrapF k (.ofNat m)) fun n => q (.i k n)
noncomputable def iQuo : IT := fun k a b q => nn a b fun x y => ifB (Nat.beq y 0) (.err "division by zero") (wrapI k (Nat.div x y) q)
noncomputable def iRem : IT := fun k a b q => nn a b fun x y => ifB (Nat.beq y 0) (.err "division by zero") (natI k (Nat.mod x y) q)
noncomputable def iAnd : IT := fun k a b q => nn a b fun x y => wrapI k (Nat.land (Nat.mod x (pow2 k)) (Nat.mod y (pow2 k))) q
noncomputable def iOr : IT := fun k a b q => nn a b fun x y => wrapI k (Nat.lor (Nat.mod x (pow2 k)) (Nat.mod y (pow2 k))) q
noncomputable def iXor : IT := fun k a b q => nn a b fun x y => wrapI k (Nat.xor (Nat.mod x (pow2 k)) (Nat.mod y (pow2 k))) q
noncomputable def iAndNot : IT := fun k a b q => nn a b fun x y => wrapI k (Nat.land (Nat.mod x (pow2 k)) (Nat.sub (Nat.sub (pow2 k) 1) (Nat.mod y (pow2 k)))) q
noncomputable def iEql : IT := fun _ a b q => boolK (natEqInt a b) fun t => q (.b t)
noncomputable def iNeq : IT := fun _ a b q => boolK (natEqInt a b) fun t => q (.b (notB t))
noncomputable def iLss : IT := fun _ a b q => boolK (ltF a b) fun t => q (.b t)
noncomputable def iLeq : IT := fun _ a b q => boolK (notB (ltF b a)) fun t => q (.b t)
noncomputable def iGtr : IT := fun _ a b q => boolK (ltF b a) fun t => q (.b t)
noncomputable def iGeq : IT := fun _ a b q => boolK (notB (ltF a b)) fun t => q (.b t)
noncomputable def shN (k : IntKind) (y : Nat) : Nat := ifB (Nat.ble y (bitsOf k)) y (bitsOf k)
noncomputable def shl : IT := fun k a b q => nn a b fun x y => wrapI k (Nat.mul x (Nat.pow 2 (shN k y))) q
noncomputable def shr : IT := fun k a b q => nn a b fun x y => natI k (Nat.div x (Nat.pow 2 (shN k y))) q

/-! ### strings -/
noncomputable def lappK (a b : List UInt8) (k : List UInt8 → RT) : RT := List.rec (motive := fun _ => (List UInt8 → RT) → RT) (fun k => k b) (fun x _ ih k => ih fun l => k (x :: l)) a k
noncomputable def llen {α : Type} (a : List α) : Nat := List.rec (motive := fun _ => Nat → Nat) (fun n => n) (fun _ _ ih n => ih (Nat.succ n)) a 0
noncomputable def leq (a : List UInt8) : List UInt8 → Bool :=
  List.rec (motive := fun _ => List UInt8 → Bool) (fun b => List.rec (motive := fun _ => Bool) true (fun _ _ _ => false) b)
    (fun x _ ih b => List.rec (motive := fun _ => Bool) false (fun y t _ => ifB (Nat.beq x.toNat y.toNat) (ih t) false) b) a
noncomputable def llt (a : List UInt8) : List UInt8 → Bool :=
  List.rec (motive := fun _ => List UInt8 → Bool) (fun b => List.rec (motive := fun _ => Bool) false (fun _ _ _ => true) b)
    (fun x _ ih b => List.rec (motive := fun _ => Bool) false (fun y t _ => ifB (Nat.blt x.toNat y.toNat) true (ifB (Nat.beq x.toNat y.toNat) (ih t) false)) b) a
noncomputable def lget {α : Type} (a : List α) : Nat → Option α :=
  List.rec (motive := fun _ => Nat → Option α) (fun _ => none) (fun x _ ih n => Nat.rec (motive := fun _ => Option α) (some x) (fun m _ => ih m) n) a
noncomputable def ldropK {α : Type} (n : Nat) : List α → (List α → RT) → RT :=
  Nat.rec (motive := fun _ => List α → (List α → RT) → RT) (fun l k => k l) (fun _ ih l k => List.rec (motive := fun _ => RT) (k []) (fun _ t _ => ih t k) l) n
noncomputable def ltakeK {α : Type} (n : Nat) : List α → (List α → RT) → RT :=
  Nat.rec (motive := fun _ => List α → (List α → RT) → RT) (fun _ k => k []) (fun _ ih l k => List.rec (motive := fun _ => RT) (k []) (fun x t _ => ih t fun m => k (x :: m)) l) n
/-- A string's bytes, as cells. -/
noncomputable def csOfK (l : List UInt8) (k : Cs → RT) : RT := List.rec (motive := fun _ => Cs → RT) k (fun x _ ih c => natK x.toNat fun n => c.mkK (.rep 1 (.i .u8 (.ofNat n))) ih) l .nil
/-- Cells that are bytes, as bytes. -/
noncomputable def bytesK (c : Cs) (k : List UInt8 → RT) : RT :=
  List.rec (motive := fun _ => (List UInt8 → RT) → RT) (fun k => k []) (fun v _ ih k => onInt v fun kd n => ifB (kindEq kd .u8) (iabs n fun m => ih fun l => k (UInt8.ofNat m :: l)) (.err "byte expected")) c.toL k

noncomputable def sOp (o : BinOp) (a b : List UInt8) (q : Ce → RT) : RT :=
  (fun (eS : RT) => BinOp.rec (motive := fun _ => RT) (ifB (Nat.ble (llen a + llen b) 4611686018427387904) (lappK a b fun l => q (.st l)) (.err "a text too long")) eS eS eS eS eS eS eS eS eS eS (boolK (leq a b) fun t => q (.b t)) (boolK (notB (leq a b)) fun t => q (.b t)) (boolK (llt a b) fun t => q (.b t)) (boolK (notB (llt b a)) fun t => q (.b t)) (boolK (llt b a) fun t => q (.b t)) (boolK (notB (llt a b)) fun t => q (.b t)) o) (.err "an operator of texts")

/-! ### equality -/
noncomputable def eqOp (o : BinOp) (k : (Bool → Ce) → RT) : RT :=
  BinOp.rec (motive := fun _ => RT) eT eT eT eT eT eT eT eT eT eT eT (k (fun b => .b b)) (k (fun b => .b (notB b))) eT eT eT eT o
noncomputable def boolEq (a b : Bool) : Bool := Bool.rec (motive := fun _ => Bool) (notB b) b a
noncomputable def eE : RT := .err "==: not these operands"
/-- Is it nil (a pointer, a slice, a map, a function, an interface value), and which of these? -/
noncomputable def nilKind (v : Value) (k : Nat → Bool → RT) : RT :=
  Value.casesOn (motive_1 := fun _ => RT) v (fun _ => eE) (fun _ _ => eE) (fun _ _ => eE) (fun _ _ _ => eE) (fun _ => eE) (fun a => Option.rec (motive := fun _ => RT) (k 0 true) (fun _ => eE) a) (fun a _ _ => Option.rec (motive := fun _ => RT) (k 1 true) (fun _ => eE) a)
    (fun a => Option.rec (motive := fun _ => RT) (k 2 true) (fun _ => k 2 false) a) (fun _ => eE) (fun _ _ _ => k 3 false) (k 3 true) (fun _ _ => k 4 false) (k 4 true) (fun _ => eE) (fun _ => eE)
/-- One of the two is nil: are they the same? -/
noncomputable def nilEq (i j : Nat) (a b : Bool) (q : Bool → RT) : RT := ifB (Nat.beq i j) (Bool.rec (motive := fun _ => RT) (Bool.rec (motive := fun _ => RT) eE (q false) b) (q b) a) eE
noncomputable def eqNil (y : Ce) (i : Nat) (a : Bool) (q : Bool → RT) : RT :=
  Ce.rec (motive := fun _ => RT) (fun _ _ => eE) (fun _ => eE) (fun _ _ => nilEq i 0 a false q) (fun _ _ _ _ => nilEq i 1 a false q) (fun _ => eE) (fun w => nilKind w fun j b => nilEq i j a b q) y
/-- Are two scalars the same? Two places only where they are of one handle. -/
noncomputable def eqK (x y : Ce) (q : Bool → RT) : RT :=
  Ce.rec (motive := fun _ => RT) (fun k a => onInt y fun j b => ifB (kindEq k j) (boolK (natEqInt a b) q) eE) (fun a => onBool y fun b => boolK (boolEq a b) q)
    (fun b o => Ce.rec (motive := fun _ => RT) (fun _ _ => eE) (fun _ => eE) (fun c p => ifB (Nat.beq b c) (boolK (Nat.beq o p) q) (.err "==: two blocks")) (fun _ _ _ _ => eE) (fun _ => eE) (fun _ => eqNil y 0 false q) y)
    (fun _ _ _ _ => eqNil y 1 false q) (fun s => onStr y fun t => boolK (leq s t) q) (fun w => nilKind w fun i a => eqNil y i a q) x
noncomputable def binI (o : BinOp) (k : IntKind) (a : Int) (j : IntKind) (b : Int) (q : Ce → RT) : RT :=
  BinOp.rec (motive := fun _ => RT) (ifB (kindEq k j) (iAdd k a b q) eE) (ifB (kindEq k j) (iSub k a b q) eE) (ifB (kindEq k j) (iMul k a b q) eE) (ifB (kindEq k j) (iQuo k a b q) eE) (ifB (kindEq k j) (iRem k a b q) eE) (ifB (kindEq k j) (iAnd k a b q) eE) (ifB (kindEq k j) (iOr k a b q) eE) (ifB (kindEq k j) (iXor k a b q) eE) (shl k a b q) (shr k a b q) (ifB (kindEq k j) (iAndNot k a b q) eE) (ifB (kindEq k j) (iEql k a b q) eE) (ifB (kindEq k j) (iNeq k a b q) eE) (ifB (kindEq k j) (iLss k a b q) eE) (ifB (kindEq k j) (iLeq k a b q) eE) (ifB (kindEq k j) (iGtr k a b q) eE) (ifB (kindEq k j) (iGeq k a b q) eE) o
noncomputable def eqR (o : BinOp) (x y : Ce) (q : Ce → RT) : RT := eqOp o fun r => eqK x y fun b => q (r b)
/-- The type of what is compared is of the values' kind (5: truths). -/
noncomputable def eqTy (cx : Cx) (t i : Nat) (k : RT) : RT := underK cx t fun d =>
  TypeDesc.rec (motive := fun _ => RT) eT (ifB (Nat.beq i 5) k eT) (fun _ => eT) (fun _ => eT) (fun _ => eT) eT (ifB (Nat.beq i 0) k eT) (fun el => ifB (Nat.beq i 0) (tyK cx el fun ti => ifB (Nat.beq ti.size 0) eT k) eT) (fun _ => ifB (Nat.beq i 1) k eT) (fun _ _ => eT) (fun _ _ => ifB (Nat.beq i 2) k eT) (fun _ _ => eT) (fun _ => eT) (fun _ _ _ => ifB (Nat.beq i 3) k eT) (fun _ => ifB (Nat.beq i 4) k eT) (fun _ => eT) (fun _ _ => eT) d
/-- Two nil interface values are compared only where one of them is the literal. -/
noncomputable def bothNil (lit : Bool) (i : Nat) (a : Bool) (y : Ce) (k : RT) : RT := ifB (andB (Nat.beq i 4) (andB a (notB lit))) (onIface y (fun _ _ => k) (.err "==: two nil interface values")) k
noncomputable def binS (cx : Cx) (o : BinOp) (t : Nat) (lit : Bool) (x y : Ce) (q : Ce → RT) : RT :=
  Ce.rec (motive := fun _ => RT) (fun k a => onInt y fun j b => binI o k a j b q) (fun _ => eqTy cx t 5 (eqR o x y q)) (fun _ _ => eqTy cx t 0 (eqR o x y q)) (fun _ _ _ _ => eqTy cx t 1 (eqR o x y q)) (fun s => onStr y fun t => sOp o s t q)
    (fun w => nilKind w fun i a => eqTy cx t i (bothNil lit i a y (eqR o x y q))) x
noncomputable def binR (cx : Cx) (o : BinOp) (t : Nat) (lit : Bool) (x y : RV) (q : Ce → RT) : RT := onS x fun v => onS y fun w => binS cx o t lit v w q
end Go.Ev
end
section
/- Ev, part C: function values, methods and builtins on the abstract heap. Conditions: none. -/
namespace Go.Ev
set_option linter.unusedVariables false

noncomputable def toRVsK (l : List Value) (k : List RV → RT) : RT := List.rec (motive := fun _ => (List RV → RT) → RT) (fun k => k []) (fun v _ ih k => toRVK v fun x => ih fun m => k (x :: m)) l k
noncomputable def ofRV (x : RV) (k : Value → RT) : RT := RV.rec (motive := fun _ => RT) (fun c => k c.toV) (fun c => k (.agg ⟨mapToV c.toL⟩)) (.err "value expected") (fun _ _ _ _ => .err "value expected") x
noncomputable def ofRVs (l : List RV) (k : List Value → RT) : RT := List.rec (motive := fun _ => (List Value → RT) → RT) (fun k => k []) (fun x _ ih k => ofRV x fun v => ih fun vs => k (v :: vs)) l k
noncomputable def rapp (a b : List RV) : List RV := List.rec (motive := fun _ => List RV) b (fun x _ ih => x :: ih) a
noncomputable def tupR (l : List RV) : RV := List.rec (motive := fun _ => RV) .u (fun x _ ih => .p x ih) l
noncomputable def oneOr (l : List RV) : RV := List.rec (motive := fun _ => RV) .u (fun x t _ => List.rec (motive := fun _ => RV) x (fun y u _ => .p x (.p y (tupR u))) t) l
noncomputable def nthR (x : RV) : Nat → (RV → RT) → RT := RV.rec (motive := fun _ => Nat → (RV → RT) → RT) (fun _ _ _ => .err "extract") (fun _ _ _ => .err "extract") (fun _ _ => .err "extract") (fun x r _ ih n k => Nat.rec (motive := fun _ => RT) (k x) (fun m _ => ih m k) n) x

/-! ### methods -/
noncomputable def findM (name : String) (l : List Method) (k : Method → RT) : RT := List.rec (motive := fun _ => RT) (.err "no such method") (fun m _ ih => ifB (m.name == name) (k m) ih) l
/-- The receiver that a method of a dynamic type takes. -/
noncomputable def recvK (cx : Cx) (xt : Nat) (x : RV) (ptr : Bool) (k : RV → RT) : RT :=
  underK cx xt fun d => ifB ptr (dPtr d fun _ => k x) (TypeDesc.rec (motive := fun _ => RT) (k x) (k x) (fun _ => k x) (fun _ => k x) (fun _ => k x) (k x) (k x) (fun _ => .err "a value method of a pointer") (fun _ => k x) (fun _ _ => k x) (fun _ _ => k x) (fun _ _ => k x) (fun _ => k x) (fun _ _ _ => k x) (fun _ => k x) (fun _ => k x) (fun _ _ => k x) d)
noncomputable def methK (cx : Cx) (t : Nat) (v : Value) (name : String) (k : Nat → Bool → RV → RT) : RT :=
  tyK cx t fun i => findM name i.methods.toList fun m => onSome m.func "a method of an embedded interface" fun fp =>
    List.rec (motive := fun _ => RT) (toRVK v fun x => recvK cx t x fp.2 (k fp.1 fp.2))
      (fun s l _ => List.rec (motive := fun _ => RT)
        (ifB s.deref (.err "a promoted method through a pointer")
          (underK cx s.struct fun d => dStruct d fun fs => onSome (lget fs.toList s.index) "no such field" fun f => toRVK v fun x => onA x fun c => partK cx f.type c f.offset fun x => recvK cx f.type x fp.2 (k fp.1 fp.2)))
        (fun _ _ _ => .err "a promoted method of two steps") l) m.path.toList
noncomputable def vMeth (cx : Cx) (call : CallT) (recv : Value) (name : String) (args : List RV) (h : H) (k : KV) (kp : KP) : RT :=
  vIface recv (fun t v => methK cx t v name fun f _ x => call f (x :: args) h k kp) (.err "a method of a nil interface value")
noncomputable def callMeth (cx : Cx) (call : CallT) (recv : Ce) (name : String) (args : List RV) (h : H) (k : KV) (kp : KP) : RT :=
  recv.onV eIf fun v => vMeth cx call v name args h k kp
/-- Calls a function value. -/
noncomputable def callV (cx : Cx) (call : CallT) (f : Ce) (args : List RV) (h : H) (k : KV) (kp : KP) : RT :=
  onFn f fun fn first cap =>
    Fn.rec (motive := fun _ => RT) (fun g => toRVsK first.toList fun xs => toRVsK cap.toList fun ys => call g (rapp xs (rapp args ys)) h k kp)
      (fun name => List.rec (motive := fun _ => RT) (.err "a method value without a receiver") (fun r t _ => List.rec (motive := fun _ => RT) (vMeth cx call r name args h k kp) (fun _ _ _ => .err "a method value of two") t) first.toList)
      (fun _ _ => .err "a method expression") (fun _ _ _ _ => .err "a promoted method's value") (fun _ => .err "yield") fn

/-! ### builtins -/
noncomputable def eLen : RT := .err "len"
noncomputable def mlen (l : ML) : Nat := ML.rec (motive := fun _ => Nat) 0 (fun _ _ _ ih => Nat.succ ih) l
noncomputable def lenE (c : Ce) (h : H) (k : Nat → RT) : RT :=
  Ce.rec (motive := fun _ => RT) (fun _ _ => eLen) (fun _ => eLen) (fun _ _ => eLen) (fun _ _ n _ => k n) (fun s => natK (llen s) k)
    (fun v => Value.casesOn (motive_1 := fun _ => RT) v (fun _ => eLen) (fun _ _ => eLen) (fun _ _ => eLen) (fun _ _ _ => eLen) (fun _ => eLen) (fun _ => eLen) (fun a n _ => Option.rec (motive := fun _ => RT) (k n) (fun _ => eLen) a)
    (fun r => Option.rec (motive := fun _ => RT) (k 0) (fun r => h.getK r fun o => oMap o fun l _ => natK (mlen l) k) r) (fun _ => eLen) (fun _ _ _ => eLen) eLen (fun _ _ => eLen) eLen (fun _ => eLen) (fun _ => eLen)) c
noncomputable def eSrc : RT := .err "a row or a text expected"
/-- The cells of a slice or a string: so many elements. -/
noncomputable def srcK (c : Ce) (n size : Nat) (h : H) (k : Cs → RT) : RT :=
  Ce.rec (motive := fun _ => RT) (fun _ _ => eSrc) (fun _ => eSrc) (fun _ _ => eSrc)
    (fun b o m _ => ifB (Nat.ble n m) (h.getK b fun ob => oCells ob fun c _ _ _ => ifB (Nat.ble (o + n * size) c.size) (c.subK o (n * size) k) (.err "slice beyond its block")) eSrc)
    (fun s => ltakeK n s fun l => csOfK l k) (fun v => onSl (.v v) (fun _ _ => k .nil) (fun _ _ _ _ => eSrc)) c
noncomputable def ptr (b o : Nat) : Ce := .p b o
noncomputable def slc (b o n c : Nat) : Ce := .sl b o n c
/-- A row of so many elements, and what the growing adds, are bytes that memory bears. -/
noncomputable def room (n bytes : Nat) (k : RT) : RT := ifB (andB (Nat.ble ((2 * n + 1024) * bytes) 281474976710656) (Nat.ble n 281474976710656)) k (.err "append: too large")
/-- append: what was known of the elder slice's block is known no more, where the new one may share it. -/
noncomputable def appendE (cx : Cx) (st : Nat) (s x : Ce) (h : H) (k : Ce → H → RT) : RT :=
  underK cx st fun d => dSlice d fun e => tyK cx e fun i => lenE x h fun n => srcK x n i.size h fun xs => ifB (Nat.beq xs.size (n * i.size)) (
    onSl s (fun ln cp => ifB (andB (Nat.beq ln 0) (Nat.beq cp 0)) (ifB (Nat.beq n 0) (k s h) (room n i.bytes (onSome i.zero "append: no zero value" fun _ => h.newK (.cells xs e false 0) fun b h => k (slc b 0 n n) h))) (.err "append: a nil slice of a length"))
      (fun b o len cap => natK (len + n) fun m => ifB (Nat.ble m cap)
        (ifB (Nat.beq n 0) (k s h) (natK (o + len * i.size) fun at_ => writeK b at_ xs h fun h => k (slc b o m cap) h))
        (room m i.bytes <| onSome i.zero "append: no zero value" fun _ => h.getK b fun ob => oCells ob fun c e2 ex fz => ifB (Nat.ble (o + len * i.size) c.size)
          (ifB ex (c.subK o (len * i.size) fun c => c.mkK xs fun c => h.newK (.cells c e false 0) fun b2 h => k (slc b2 0 m m) h)
            (ifB (andB (andB (Nat.beq e2 e) (Nat.ble fz (Nat.succ (len * i.size)))) (andB (Nat.ble (o + cap * i.size) c.size) (ifB (Nat.ble fz 1) true (Nat.beq o 0)))) (h.delK b fun h => c.subK o (len * i.size) fun c => c.mkK xs fun c => h.newK (.cells c e false fz) fun b2 h => k (slc b2 0 m m) h) (.err "append: frozen cells")))
          (.err "append: beyond the block")))) (.err "append: elements of more cells")
/-- The second type, if there is one, is no whole number's (append of a make). -/
noncomputable def noInt (cx : Cx) (ts : Array TypeId) (k : RT) : RT := List.rec (motive := fun _ => RT) k (fun _ l _ => List.rec (motive := fun _ => RT) k (fun t _ _ => underK cx t fun d => dInt d (fun _ => .err "append of a make") k) l) ts.toList
noncomputable def minN (a b : Nat) : Nat := ifB (Nat.ble a b) a b
noncomputable def copyE (cx : Cx) (st : Nat) (s x : Ce) (h : H) (k : Ce → H → RT) : RT :=
  underK cx st fun d => dSlice d fun e => tyK cx e fun i => onSl s (fun ln _ => ifB (Nat.beq ln 0) (lenE x h fun m => srcK x 0 i.size h fun _ => k (.i .i64 (.ofNat 0)) h) (.err "copy: a nil slice of a length")) fun b o len _ => lenE x h fun m =>
    natK (minN m len) fun n => srcK x n i.size h fun xs => ifB (Nat.beq n 0) (k (.i .i64 (.ofNat 0)) h) (writeK b o xs h fun h => k (.i .i64 (.ofNat n)) h)
noncomputable def clearE (cx : Cx) (st : Nat) (s : Ce) (h : H) (k : H → RT) : RT :=
  underK cx st fun d => dSlice d fun e => onSl s (fun _ _ => k h) fun b o len _ => ifB (Nat.beq len 0) (k h) (zeroK cx 64 e fun z => Cs.timesK len z fun z => writeK b o z h k)
noncomputable def eMm : RT := .err "min, max"
noncomputable def mmE (f : Int → Int → Bool) (l : List RV) (k : Ce → RT) : RT :=
  List.rec (motive := fun _ => RT) eMm (fun x t _ => onS x fun v => List.rec (motive := fun _ => Ce → RT) (fun a => k a) (fun y _ ih a => onS y fun w => onInt a fun j p => onInt w fun i q => ifB (kindEq j i) (ih (ifB (f p q) (.i j q) (.i j p))) eMm) t v) l
/-- cap, where it is surely known. -/
noncomputable def capE (v : Ce) (h : H) (k : Nat → RT) : RT :=
  onSl v (fun _ cap => k cap) fun b _ _ cap => h.getK b fun ob => oCells ob fun _ _ ex _ => ifB ex (k cap) (.err "cap: not known")
noncomputable def arg1 (l : List RV) (k : Ce → RT) : RT := List.rec (motive := fun _ => RT) (.err "one argument") (fun x _ _ => onS x k) l
noncomputable def arg2 (l : List RV) (k : Ce → Ce → RT) : RT := List.rec (motive := fun _ => RT) (.err "two arguments") (fun x t _ => onS x fun v => arg1 t fun w => k v w) l
noncomputable def arg3 (l : List RV) (k : Ce → Ce → Ce → RT) : RT := List.rec (motive := fun _ => RT) (.err "three arguments") (fun x t _ => onS x fun v => arg2 t fun w y => k v w y) l
noncomputable def ty0 (l : Array TypeId) (k : Nat → RT) : RT := List.rec (motive := fun _ => RT) (.err "no type") (fun t _ _ => k t) l.toList
/-- Just one argument; just two. -/
noncomputable def args1 (l : List RV) (k : Ce → RT) : RT := List.rec (motive := fun _ => RT) (.err "one argument") (fun x t _ => List.rec (motive := fun _ => RT) (onS x k) (fun _ _ _ => .err "one argument") t) l
noncomputable def args2 (l : List RV) (k : Ce → Ce → RT) : RT := List.rec (motive := fun _ => RT) (.err "two arguments") (fun x t _ => onS x fun v => args1 t fun w => k v w) l
noncomputable def isByte (cx : Cx) (t : Nat) (k : RT) : RT := tyK cx t fun i => ifB (Nat.beq i.size 1) (underK cx t fun d => dInt d (fun j => ifB (kindEq j .u8) k eT) eT) eT
noncomputable def unsafeStr (cx : Cx) (pt : Nat) (p : Ce) (n : Int) (h : H) (k : Ce → H → RT) : RT :=
  iabs n fun m => ifB (Nat.beq m 0) (onPtr p (k (.st []) h) fun _ _ => k (.st []) h) (onPtr p (.err "unsafe.String: nil") fun b o => underK cx pt fun d => dPtr d fun u => isByte cx u (ifB (andB (Nat.beq o 0) (Nat.ble m 281474976710656)) (h.getK b fun ob => oCells ob fun c e ex fz => ifB (andB (Nat.beq e u) (andB (Nat.ble m c.size) (notB (Nat.beq fz 1)))) (c.takeK m fun c1 => bytesK c1 fun l => natK (ifB (Nat.blt m fz) fz (Nat.succ m)) fun fz => h.setK b (.cells c e ex fz) fun h => k (.st l) h) (.err "unsafe.String: beyond")) (.err "unsafe.String: inside")))
noncomputable def bAppend (cx : Cx) (ts : Array TypeId) (args : List RV) (h : H) (k : KV) : RT := ty0 ts fun t => noInt cx ts <| arg2 args fun s x => appendE cx t s x h fun v => k (.s v)
noncomputable def bCap (cx : Cx) (ts : Array TypeId) (args : List RV) (h : H) (k : KV) : RT := ty0 ts fun t => underK cx t fun d => dSlice d fun _ => arg1 args fun v => capE v h fun n => k (.s (.i .i64 (.ofNat n))) h
noncomputable def bClear (cx : Cx) (ts : Array TypeId) (args : List RV) (h : H) (k : KV) : RT := ty0 ts fun t => arg1 args fun s => clearE cx t s h (k .u)
/-- A value's type is of its kind: a text's, a row's, a map's. -/
noncomputable def lenTy (d : TypeDesc) (v : Ce) (k : RT) : RT :=
  Ce.rec (motive := fun _ => RT) (fun _ _ => eLen) (fun _ => eLen) (fun _ _ => eLen) (fun _ _ _ _ => dSlice d fun _ => k) (fun _ => dStr d k eLen)
    (fun w => Value.casesOn (motive_1 := fun _ => RT) w (fun _ => eLen) (fun _ _ => eLen) (fun _ _ => eLen) (fun _ _ _ => eLen) (fun _ => eLen) (fun _ => eLen) (fun _ _ _ => dSlice d fun _ => k) (fun _ => dMap d fun _ _ => k) (fun _ => eLen) (fun _ _ _ => eLen) eLen (fun _ _ => eLen) eLen (fun _ => eLen) (fun _ => eLen)) v
noncomputable def bLen (cx : Cx) (ts : Array TypeId) (args : List RV) (h : H) (k : KV) : RT := ty0 ts fun t => underK cx t fun d => arg1 args fun v => lenTy d v <| lenE v h fun n => k (.s (.i .i64 (.ofNat n))) h
noncomputable def bMax (args : List RV) (h : H) (k : KV) : RT := mmE (fun p q => ltF p q) args fun v => k (.s v) h
noncomputable def bMin (args : List RV) (h : H) (k : KV) : RT := mmE (fun p q => ltF q p) args fun v => k (.s v) h
noncomputable def bUString (cx : Cx) (ts : Array TypeId) (args : List RV) (h : H) (k : KV) : RT := ty0 ts fun t => args2 args fun p n => onInt n fun _ n => unsafeStr cx t p n h fun v => k (.s v)
noncomputable def bUSlice (args : List RV) (h : H) (k : KV) : RT := args1 args fun v => onSl v (fun _ _ => k (.s (.v (.pointer none))) h) fun b o _ c => ifB (Nat.beq c 0) (.err "unsafe.SliceData: no capacity") (k (.s (.p b o)) h)
noncomputable def bCopy (cx : Cx) (ts : Array TypeId) (args : List RV) (h : H) (k : KV) : RT := ty0 ts fun t => arg2 args fun s x => copyE cx t s x h fun v => k (.s v)
abbrev BT := Cx → Array TypeId → List RV → H → KV → RT
noncomputable def bErr : BT := fun _ _ _ _ _ => .err "a builtin"
noncomputable def bltE (b : Builtin) : BT :=
  Builtin.rec (motive := fun _ => BT) bAppend bCap bClear bErr bErr bCopy bErr bErr bLen bErr (fun _ _ => bMax) (fun _ _ => bMin) bErr bErr bErr bErr bErr bErr bErr bErr (fun _ _ => bUSlice) bUString bErr bErr bErr bErr b
end Go.Ev
end
section
/- Ev, part D: the evaluator's operations, regions and statements. Conditions: none. -/
namespace Go.Ev
set_option linter.unusedVariables false

/-! ### what an operation does with values -/
noncomputable def pPick (c a b : RV) (k : RV → RT) : RT := onS c fun c => onBool c fun t => ifB t (k a) (k b)
noncomputable def pAlloc (cx : Cx) (t : Nat) (h : H) (k : KV) : RT := zeroK cx 64 t fun z => h.newK (.cells z t true 0) fun b => k (.s (.p b 0))
noncomputable def pBox (t : Nat) (v : RV) (h : H) (k : KV) : RT := cellsK v fun c => h.newK (.cells c t true 0) fun b => k (.s (.p b 0))
/-- Lays parts into cells: each at its place. -/
noncomputable def fillK (place : Nat → (Nat → Nat → RT) → RT) (l : List (Nat × RV)) : Cs → (Cs → RT) → RT :=
  List.rec (motive := fun _ => Cs → (Cs → RT) → RT) (fun c k => k c)
    (fun p _ ih c k => place p.1 fun off size => cellsK p.2 fun x => ifB (andB (Nat.beq x.size size) (Nat.ble (off + size) c.size)) (c.spliceK off x fun c => ih c k) (.err "build: a part of another size")) l
noncomputable def fieldP (cx : Cx) (fs : List Field) (i : Nat) (k : Nat → Nat → RT) : RT := onSome (lget fs i) "no such field" fun f => tyK cx f.type fun ti => k f.offset ti.size
noncomputable def pBuild (cx : Cx) (t : Nat) (l : List (Nat × RV)) (k : RV → RT) : RT :=
  zeroK cx 64 t fun z => underK cx t fun d =>
    dArr d (fun _ el => tyK cx el fun ti => fillK (fun i k => k (i * ti.size) ti.size) l z fun c => k (.a c)) (dStruct d fun fs => fillK (fieldP cx fs.toList) l z fun c => k (.a c))
noncomputable def pBuildSlice (cx : Cx) (t n : Nat) (l : List (Nat × RV)) (h : H) (k : KV) : RT :=
  underK cx t fun d => dSlice d fun el => tyK cx el fun ti => ifB (Nat.ble (n * ti.size) 16777216)
    (zeroK cx 64 el fun z => Cs.timesK n z fun z => fillK (fun i k => k (i * ti.size) ti.size) l z fun c => h.newK (.cells c el true 0) fun b => k (.s (slc b 0 n n))) (.err "buildSlice: too large")
noncomputable def pLoad (cx : Cx) (t : Nat) (a : RV) (h : H) (k : RV → RT) : RT := onPlace a fun b o => loadK cx t b o h k
noncomputable def pStore (cx : Cx) (t : Nat) (a x : RV) (h : H) (k : H → RT) : RT := onPlace a fun b o => storeK cx t b o x h k
noncomputable def pNil (cx : Cx) (v : RV) (k : RV → RT) : RT := onS v fun w => Ce.rec (motive := fun _ => RT) (fun _ _ => k v) (fun _ => k v) (fun _ _ => k v) (fun _ _ _ _ => k v) (fun _ => k v) (fun w =>
  (fun (g : RT) => Value.casesOn (motive_1 := fun _ => RT) w (fun _ => g) (fun _ _ => g) (fun _ _ => g) (fun _ _ _ => g) (fun _ => g) (fun a => onSome a "nil dereference" fun _ => .err "nilCheck") (fun _ _ _ => g) (fun _ => g) (fun _ => g)
    (fun fn first _ => Fn.rec (motive := fun _ => RT) (fun _ => g) (fun name => List.rec (motive := fun _ => RT) (.err "nilCheck of a method value") (fun r _ _ => vIface r (fun t v => methK cx t v name fun _ p _ => ifB p g (.err "nilCheck of a value method")) (.err "nil dereference")) first.toList) (fun _ _ => .err "nilCheck") (fun _ _ _ _ => .err "nilCheck") (fun _ => .err "nilCheck") fn)
    (.err "nil function") (fun _ _ => g) (.err "nil interface") (fun _ => g) (fun _ => g)) (k v)) w
noncomputable def pBin (cx : Cx) (o : BinOp) (t : Nat) (lit : Bool) (x y : RV) (k : RV → RT) : RT := binR cx o t lit x y fun r => k (.s r)
noncomputable def unC (j : IntKind) (m : Nat) : Nat := Nat.sub (Nat.sub (pow2 j) 1) (Nat.mod m (pow2 j))
noncomputable def pUn (o : UnOp) (x : RV) (k : RV → RT) : RT := onS x fun w =>
  UnOp.rec (motive := fun _ => RT) (onInt w fun j n => intK (wrapF j (subF (.ofNat 0) n)) fun n => k (.s (.i j n)))
    (onInt w fun j n => iabs n fun m => wrapI j (unC j m) fun r => k (.s r))
    (onBool w fun b => k (.s (.b (notB b)))) (.err "unary plus") o
noncomputable def eC : RT := .err "convert"
/-- Marks a block of bytes as one that a text was turned into: nothing that is known of it changes. -/
noncomputable def sameSl (w : Ce) (h : H) (k : H → RT) : RT := onSl w (fun _ _ => .err "convert: a nil slice") fun b _ _ _ => h.getK b fun ob => oCells ob fun c e ex fz => ifB (Nat.ble fz 1) (h.setK b (.cells c e ex 1) k) (.err "convert: frozen")
noncomputable def dUns (d : TypeDesc) (k : RT) : RT :=
  TypeDesc.rec (motive := fun _ => RT) eT eT (fun _ => eT) (fun _ => eT) (fun _ => eT) eT k (fun _ => eT) (fun _ => eT) (fun _ _ => eT) (fun _ _ => eT) (fun _ _ => eT) (fun _ => eT) (fun _ _ _ => eT) (fun _ => eT) (fun _ => eT) (fun _ _ => eT) d
noncomputable def pConv (cx : Cx) (s d : Nat) (v : RV) (h : H) (k : KV) : RT := onS v fun w => underK cx s fun sd => underK cx d fun dd =>
  (fun (toPtr : Nat → RT) (toUns : RT) => TypeDesc.rec (motive := fun _ => RT) eC eC (fun j => onInt w fun _ n => intK (wrapF j n) fun n => k (.s (.i j n)) h) (fun _ => eC) (fun _ => eC)
      (dStr sd (onStr w fun b => k v h)
        (dInt sd (fun _ => onInt w fun _ n => iabs n fun m => ifB (Nat.blt m 128) (k (.s (.st [UInt8.ofNat m])) h) (.err "convert: a letter beyond ASCII"))
          (dSlice sd fun el => underK cx el fun ed => dInt ed (fun j => ifB (kindEq j .u8) (onSl w (fun _ _ => k (.s (.st [])) h) fun _ _ n _ => srcK w n 1 h fun c => bytesK c fun l => k (.s (.st l)) h) eC) eC)))
      toUns toPtr
      (fun el => underK cx el fun ed => dInt ed (fun j => ifB (kindEq j .u8) (dStr sd (onStr w fun b => tyK cx el fun ti => ifB (Nat.beq ti.size 1) (csOfK b fun c => natK (llen b) fun n => h.newK (.cells c el false 1) fun hb => k (.s (.sl hb 0 n n))) eC) (ifB (Nat.beq s d) (sameSl w h (k v)) eC)) (.err "convert: runes")) eC)
      (fun _ _ => eC) (fun _ _ => eC) (fun _ _ => eC) (fun _ => eC) (fun _ _ _ => eC) (fun _ => eC) (fun _ => eC) (fun _ _ => eC) dd)
    (fun el => dUns sd (onPtr w (.err "convert: nil") fun b o => h.getK b fun ob => oCells ob fun c e ex _ => ifB (andB ex (Nat.beq o 0)) (tyK cx e fun i => ifB (Nat.beq c.size i.size) (liesK cx e el (k v h)) eC) eC))
    (dPtr sd fun el => tyK cx el fun ti => ifB (Nat.beq ti.size 0) eC (onPtr w (.err "convert: nil") fun b o => h.getK b fun ob => oCells ob fun c _ _ _ => ifB (Nat.blt o c.size) (k v h) eC))
noncomputable def pS2A (cx : Cx) (t : Nat) (v : RV) (k : RV → RT) : RT := onS v fun w => underK cx t fun d => dArr d (fun n _ => onSl w (fun _ _ => .err "slice to array: nil") fun b o m _ => ifB (Nat.ble n m) (k (.s (.p b o))) (.err "slice to array: too short")) eT
noncomputable def pMkI (cx : Cx) (t : Nat) (v : RV) (k : RV → RT) : RT := ofRV v fun w => underK cx t fun d => dIface d (.err "makeInterface of an interface") (k (.s (.v (.iface t w))))
noncomputable def pMkF (fn : Fn) (xs ys : List RV) (k : RV → RT) : RT := ofRVs xs fun xs => ofRVs ys fun ys => k (.s (.v (.func fn ⟨xs⟩ ⟨ys⟩)))
noncomputable def pMkM (h : H) (k : KV) : RT := h.newK (.map .nil 0) fun b => k (.s (.v (.map (some b))))
noncomputable def pMkS (cx : Cx) (t : Nat) (l c : RV) (h : H) (k : KV) : RT := onS l fun l => onInt l fun _ l => onS c fun c => onInt c fun _ c => nn l c fun l c =>
  underK cx t fun d => dSlice d fun el => tyK cx el fun ti => ifB (andB (andB (Nat.ble l c) (Nat.ble c 281474976710656)) (Nat.ble (c * ti.bytes) 281474976710656)) (zeroK cx 64 el fun z => Cs.timesK c z fun z => h.newK (.cells z el true 0) fun b => k (.s (.sl b 0 l c))) (.err "makeSlice: out of range")
noncomputable def bndK (o : Option RV) (dflt : Nat) (k : Nat → RT) : RT := Option.rec (motive := fun _ => RT) (k dflt) (fun v => onS v fun v => onInt v fun _ n => iabs n k) o
noncomputable def slStr (w : Ce) (lo hi : Option RV) (k : RV → RT) : RT := onStr w fun b => natK (llen b) fun n => bndK hi n fun hh => bndK lo 0 fun ll => ifB (andB (Nat.ble ll hh) (Nat.ble hh n)) (ldropK ll b fun l => ltakeK (hh - ll) l fun l => k (.s (.st l))) (.err "slice of a string: out of range")
noncomputable def slcK (b o size ll n c : Nat) (k : RV → RT) : RT := natK (o + ll * size) fun o => natK (n - ll) fun n => natK (c - ll) fun c => k (.s (.sl b o n c))
/-- A third bound only beside a second one. -/
noncomputable def both (mx hi : Option RV) (k : RT) : RT := Option.rec (motive := fun _ => RT) k (fun _ => Option.rec (motive := fun _ => RT) (.err "slice of three without a second bound") (fun _ => k) hi) mx
noncomputable def slArr (n size b o : Nat) (lo hi mx : Option RV) (k : RV → RT) : RT := both mx hi <| bndK mx n fun mm => bndK hi n fun hh => bndK lo 0 fun ll => ifB (andB (andB (Nat.ble ll hh) (Nat.ble hh mm)) (Nat.ble mm n)) (ifB (Nat.beq mm ll) (k (.s (.sl b o 0 0))) (slcK b o size ll hh mm k)) (.err "slice of an array: out of range")
/-- At the end of a row whose capacity is not known, what is left may share the block or not: what was known of the block is known no more. -/
noncomputable def slEnd (b o at_ : Nat) (h : H) (k : KV) : RT := h.getK b fun ob => oCells ob fun c e ex fz => ifB ex (k (.s (.sl b o 0 0)) h) (ifB (andB (Nat.ble fz 1) (Nat.ble at_ c.size)) (h.delK b fun h => h.newK (.cells .nil e false fz) fun b2 h => k (.s (.sl b2 0 0 0)) h) (.err "slice: at the end of frozen cells"))
noncomputable def slSl (size b o len cap : Nat) (h : H) (lo hi : Option RV) (k : KV) : RT := bndK hi len fun hh => bndK lo 0 fun ll => ifB (andB (Nat.ble ll hh) (Nat.ble hh cap))
  (ifB (Nat.beq ll 0) (k (.s (.sl b o hh cap)) h) (ifB (Nat.beq cap ll) (slEnd b o (o + ll * size) h k) (slcK b o size ll hh cap fun v => k v h))) (.err "slice: out of range")
noncomputable def noMax (mx : Option RV) (k : RT) : RT := Option.rec (motive := fun _ => RT) k (fun _ => .err "slice of three") mx
noncomputable def slNil (len cap : Nat) (lo hi : Option RV) (k : RV → RT) : RT := bndK hi len fun hh => bndK lo 0 fun ll => ifB (andB (Nat.ble ll hh) (Nat.ble hh cap)) (natK (hh - ll) fun n => natK (cap - ll) fun m => k (.s (.v (.slice none n m)))) (.err "slice: out of range")
/-- The block's capacity is known. -/
noncomputable def exactK (b : Nat) (h : H) (k : RT) : RT := h.getK b fun ob => oCells ob fun _ _ ex _ => ifB ex k (.err "slice of an array in a block whose capacity is not known")
noncomputable def pSlice (cx : Cx) (t : Nat) (v : RV) (lo hi mx : Option RV) (h : H) (k : KV) : RT := onS v fun w => underK cx t fun d =>
  dStr d (noMax mx (slStr w lo hi fun v => k v h))
    (dArr d (fun n el => tyK cx el fun ti => onPlace v fun b o => exactK b h (slArr n ti.size b o lo hi mx fun v => k v h))
      (dSlice d fun el => tyK cx el fun ti => noMax mx (onSl w (fun len cap => slNil len cap lo hi fun v => k v h)
          (fun b o len cap => slSl ti.size b o len cap h lo hi k))))
noncomputable def ptrK (b o : Nat) (k : RV → RT) : RT := natK o fun o => k (.s (.p b o))
noncomputable def pFAddr (cx : Cx) (s : Nat) (v : RV) (f : Nat) (k : RV → RT) : RT := onPlace v fun b o => underK cx s fun d => dStruct d fun fs => onSome (lget fs.toList f) "no such field" fun f => tyK cx f.type fun ti => ifB (Nat.beq ti.size 0) (.err "a field of no size") (ptrK b (o + f.offset) k)
noncomputable def pField (cx : Cx) (s : Nat) (v : RV) (f : Nat) (k : RV → RT) : RT := onA v fun c => underK cx s fun d => dStruct d fun fs => onSome (lget fs.toList f) "no such field" fun f => partK cx f.type c f.offset k
noncomputable def pIAddr (cx : Cx) (t : Nat) (v i : RV) (k : RV → RT) : RT := onS i fun i => onInt i fun _ i => iabs i fun i => underK cx t fun d =>
  dArr d (fun n el => tyK cx el fun ti => onPlace v fun b o => ifB (Nat.blt i n) (ptrK b (o + i * ti.size) k) (.err "index out of range"))
    (dSlice d fun el => tyK cx el fun ti => onS v fun w => onSl w (fun _ _ => .err "index of a nil slice") fun b o n _ => ifB (Nat.blt i n) (ptrK b (o + i * ti.size) k) (.err "index out of range"))
noncomputable def pIndex (cx : Cx) (t : Nat) (v i : RV) (k : RV → RT) : RT := onS i fun i => onInt i fun _ i => iabs i fun i => underK cx t fun d =>
  dArr d (fun n el => tyK cx el fun ti => onA v fun c => ifB (Nat.blt i n) (partK cx el c (i * ti.size) k) (.err "index out of range"))
    (dStr d (onS v fun w => onStr w fun b => onSome (lget b i) "index of a string out of range" fun c => natK c.toNat fun c => k (.s (.i .u8 (.ofNat c)))) eT)
/-! maps -/
noncomputable def eKey : RT := .err "a map's key of another kind"
noncomputable def keyEq (a b : Ce) (k : Bool → RT) : RT :=
  Ce.rec (motive := fun _ => RT) (fun j x => onInt b fun i y => ifB (kindEq j i) (boolK (natEqInt x y) k) eKey) (fun _ => eKey) (fun _ _ => eKey) (fun _ _ _ _ => eKey) (fun s => onStr b fun t => boolK (leq s t) k) (fun _ => eKey) a
noncomputable def mFind (m : ML) (key : Ce) (k : Option RV → RT) : RT := ML.rec (motive := fun _ => RT) (k none) (fun x v _ ih => keyEq key x fun b => ifB b (k (some v)) ih) m
noncomputable def mPut (m : ML) (key : Ce) (v : RV) (k : ML → RT) : RT := ML.rec (motive := fun _ => (ML → RT) → RT) (fun k => k (.cons key v .nil)) (fun x w t ih k => keyEq key x fun b => ifB b (k (.cons x v t)) (ih fun t1 => k (.cons x w t1))) m k
noncomputable def keyK (cx : Cx) (t : Nat) (i : Ce) (k : RT) : RT := underK cx t fun d => dInt d (fun _ => onInt i fun _ _ => k) (dStr d (onStr i fun _ => k) eKey)
noncomputable def pTwo (ok : Bool) (v : RV) (b : Bool) (k : RV → RT) : RT := ifB ok (k (.p v (.p (.s (.b b)) .u))) (k v)
noncomputable def pZero (cx : Cx) (t : Nat) (k : RV → RT) : RT := underK cx t fun d => zeroK cx 64 t fun z => dAgg d (k (.a z)) (onSome (z.get 0) "zero" fun z => k (.s z))
noncomputable def pLook (cx : Cx) (t : Nat) (v i : RV) (ok : Bool) (h : H) (k : RV → RT) : RT := onS v fun w => onMap w fun r => onS i fun i => underK cx t fun d => dMap d fun kt el => keyK cx kt i <|
  (fun (fin : Option RV → RT) => Option.rec (motive := fun _ => RT) (fin none) (fun r => h.getK r fun o => oMap o fun m _ => mFind m i fin) r)
    (fun r => Option.rec (motive := fun _ => RT) (pZero cx el fun z => pTwo ok z false k) (fun v => pTwo ok v true k) r)
noncomputable def pMUpd (cx : Cx) (t : Nat) (v i y : RV) (h : H) (k : H → RT) : RT := onS v fun w => onMap w fun r => onS i fun i => underK cx t fun d => dMap d fun kt _ => keyK cx kt i <| onSome r "a store into a nil map" fun r => h.getK r fun o => oMap o fun m rg => ifB (Nat.beq rg 0) (mPut m i y fun m => h.setK r (.map m 0) k) (.err "a store into a map that is ranged over")
noncomputable def pRange (cx : Cx) (t : Nat) (v : RV) (h : H) (k : KV) : RT := onS v fun w => underK cx t fun d => dStr d (onStr w fun s => h.newK (.siter s 0) fun b => k (.s (.p b 0)))
  (dMap d fun _ _ => onMap w fun r => onSome r "range over a nil map" fun r => h.getK r fun o => oMap o fun m rg => ifB (Nat.beq rg 0) (natK (Nat.succ h.nx) fun n => h.setK r (.map m n) fun h => h.newK (.miter r) fun b => k (.s (.p b 0))) (.err "two ranges over a map"))
noncomputable def pNext (v : RV) (str : Bool) (h : H) (k : KV) : RT := onPlace v fun b o => ifB (andB str (Nat.beq o 0)) (h.getK b fun ob => oIter ob fun s pos =>
  Option.rec (motive := fun _ => RT) (k (.p (.s (.b false)) .u) h) (fun c => natK c.toNat fun n => ifB (Nat.blt n 128) (natK (pos + 1) fun p1 => h.setK b (.siter s p1) (k (.p (.s (.b true)) (.p (.s (.i .i64 (.ofNat pos))) (.p (.s (.i .i32 (.ofNat n))) .u))))) (.err "range over a string: a letter beyond ASCII")) (lget s pos)) (.err "range over a map")
noncomputable def pAssert (cx : Cx) (v : RV) (t : Nat) (ok : Bool) (k : RV → RT) : RT := onS v fun w => underK cx t fun d => dIface d (.err "assertion to an interface") <| ifB ok
  ((fun (no : RT) => onIface w (fun u p => ifB (Nat.beq u t) (toRVK p fun x => k (.p x (.p (.s (.b true)) .u))) no) no) (pZero cx t fun z => k (.p z (.p (.s (.b false)) .u)))) (.err "assertion without ok")

/-! ### operations -/
/-- What an activation knows: the program, how a call is done, which temporaries live beyond their region (by bit). -/
inductive Q where
  | mk (cx : Cx) (call : CallT) (keep : Nat) : Q

noncomputable def Q.cx (q : Q) : Cx := Q.rec (motive := fun _ => Cx) (fun cx _ _ => cx) q
noncomputable def Q.call (q : Q) : CallT := Q.rec (motive := fun _ => CallT) (fun _ call _ => call) q
noncomputable def kept (keep t : Nat) : Bool := Nat.beq (Nat.land 1 (Nat.shiftRight keep t)) 1
noncomputable def tmpK (q : Q) (l e : Env) (t : Nat) (k : RV → RT) : RT := Q.rec (motive := fun _ => RT) (fun _ _ keep => Bool.rec (motive := fun _ => RT) (l.getK t k) (e.getK t k) (kept keep t)) q
/-- The package's variables that the row lists have their own numbers as handles. -/
def globN : Nat := 0
/-- The variable that no row lists and that is read by what is met by its contract alone. -/
def freeB : Nat := 3
/-- The table of the powers of ten: read by a function that is answered by itself. -/
def tabB : Nat := 2
noncomputable def valK (q : Q) (l e : Env) (o : Operand) (k : RV → RT) : RT :=
  Operand.rec (motive := fun _ => RT) (fun t => tmpK q l e t k) (fun v => cst v k) (fun g => ifB (Nat.blt g globN) (k (.s (.p g 0))) (.err "a variable that is not laid")) (fun f => k (.s (.v (.func (.func f) #[] #[])))) o
noncomputable def valsK (q : Q) (l e : Env) (os : List Operand) (k : List RV → RT) : RT :=
  List.rec (motive := fun _ => (List RV → RT) → RT) (fun k => k []) (fun o _ ih k => valK q l e o fun v => ih fun vs => k (v :: vs)) os k
noncomputable def partsK (q : Q) (l e : Env) (os : List (Nat × Operand)) (k : List (Nat × RV) → RT) : RT :=
  List.rec (motive := fun _ => (List (Nat × RV) → RT) → RT) (fun k => k []) (fun o _ ih k => valK q l e o.2 fun v => ih fun vs => k ((o.1, v) :: vs)) os k
noncomputable def optK (q : Q) (l e : Env) (o : Option Operand) (k : Option RV → RT) : RT := Option.rec (motive := fun _ => RT) (k none) (fun o => valK q l e o fun v => k (some v)) o

abbrev OT := Q → Env → Env → H → KV → KP → RT
noncomputable def oErr : OT := fun _ _ _ _ _ _ => .err "an operation that the evaluator does not know"
noncomputable def oMove (x : Operand) : OT := fun q l e h k _ => valK q l e x fun v => k v h
noncomputable def oPick (c a b : Operand) : OT := fun q l e h k _ => valK q l e c fun c => onS c fun c => onBool c fun t => ifB t (valK q l e a fun v => k v h) (valK q l e b fun v => k v h)
noncomputable def oAlloc (t : Nat) : OT := fun q l e h k _ => pAlloc q.cx t h k
noncomputable def oBox (t : Nat) (x : Operand) : OT := fun q l e h k _ => valK q l e x fun v => pBox t v h k
noncomputable def oBuild (t : Nat) (ps : Array (Nat × Operand)) : OT := fun q l e h k _ => partsK q l e ps.toList fun ps => pBuild q.cx t ps fun v => k v h
noncomputable def oBuildSlice (t n : Nat) (ps : Array (Nat × Operand)) : OT := fun q l e h k _ => partsK q l e ps.toList fun ps => pBuildSlice q.cx t n ps h k
noncomputable def oLoad (t : Nat) (a : Operand) : OT := fun q l e h k _ => valK q l e a fun v => pLoad q.cx t v h fun x => k x h
noncomputable def oStore (t : Nat) (a x : Operand) : OT := fun q l e h k _ => valK q l e a fun v => valK q l e x fun x => pStore q.cx t v x h (k .u)
noncomputable def oNil (x : Operand) : OT := fun q l e h k _ => valK q l e x fun v => pNil q.cx v fun v => k v h
noncomputable def isLit (o : Operand) : Bool := Operand.rec (motive := fun _ => Bool) (fun _ => false) (fun _ => true) (fun _ => false) (fun _ => false) o
noncomputable def orB (a b : Bool) : Bool := Bool.rec (motive := fun _ => Bool) b true a
noncomputable def oBin (o : BinOp) (t : Nat) (x y : Operand) (u : Nat) : OT := fun q l e h k _ => valK q l e x fun v => valK q l e y fun w => pBin q.cx o t (orB (isLit x) (isLit y)) v w fun r => k r h
noncomputable def oUn (o : UnOp) (t : Nat) (x : Operand) : OT := fun q l e h k _ => valK q l e x fun v => pUn o v fun r => k r h
noncomputable def oConv (s d : Nat) (x : Operand) : OT := fun q l e h k _ => valK q l e x fun v => pConv q.cx s d v h k
noncomputable def oS2A (t : Nat) (x : Operand) : OT := fun q l e h k _ => valK q l e x fun v => pS2A q.cx t v fun r => k r h
noncomputable def oMkI (t : Nat) (x : Operand) : OT := fun q l e h k _ => valK q l e x fun v => pMkI q.cx t v fun r => k r h
noncomputable def oMkF (fn : Fn) (a b : Array Operand) : OT := fun q l e h k _ => valsK q l e a.toList fun xs => valsK q l e b.toList fun ys => pMkF fn xs ys fun r => k r h
noncomputable def oMkM (t : Nat) (r : Option Operand) : OT := fun q l e h k _ => Option.rec (motive := fun _ => RT) (pMkM h k) (fun _ => .err "makeMap with a size") r
noncomputable def oMkS (t : Nat) (n c : Operand) : OT := fun q l e h k _ => valK q l e n fun n => valK q l e c fun c => pMkS q.cx t n c h k
noncomputable def oSlice (t : Nat) (x : Operand) (lo hi mx : Option Operand) : OT := fun q l e h k _ => valK q l e x fun v => optK q l e lo fun lo => optK q l e hi fun hi => optK q l e mx fun mx => pSlice q.cx t v lo hi mx h k
noncomputable def oFAddr (s : Nat) (x : Operand) (f : Nat) : OT := fun q l e h k _ => valK q l e x fun v => pFAddr q.cx s v f fun r => k r h
noncomputable def oField (s : Nat) (x : Operand) (f : Nat) : OT := fun q l e h k _ => valK q l e x fun v => pField q.cx s v f fun r => k r h
noncomputable def oIAddr (t : Nat) (x i : Operand) : OT := fun q l e h k _ => valK q l e x fun v => valK q l e i fun i => pIAddr q.cx t v i fun r => k r h
noncomputable def oIndex (t : Nat) (x i : Operand) : OT := fun q l e h k _ => valK q l e x fun v => valK q l e i fun i => pIndex q.cx t v i fun r => k r h
noncomputable def oLook (t : Nat) (x i : Operand) (ok : Bool) : OT := fun q l e h k _ => valK q l e x fun v => valK q l e i fun i => pLook q.cx t v i ok h fun r => k r h
noncomputable def oMUpd (t : Nat) (x i y : Operand) : OT := fun q l e h k _ => valK q l e x fun v => valK q l e i fun i => valK q l e y fun y => pMUpd q.cx t v i y h (k .u)
noncomputable def oRange (t : Nat) (x : Operand) : OT := fun q l e h k _ => valK q l e x fun v => pRange q.cx t v h k
noncomputable def oNext (it : Operand) (str : Bool) : OT := fun q l e h k _ => valK q l e it fun v => pNext v str h k
noncomputable def oAssert (x : Operand) (xt t : Nat) (ok : Bool) : OT := fun q l e h k _ => valK q l e x fun v => pAssert q.cx v t ok fun r => k r h
noncomputable def oExtract (x : Operand) (i : Nat) : OT := fun q l e h k _ => valK q l e x fun v => nthR v i fun r => k r h
noncomputable def oPanic (x : Operand) : OT := fun q l e h k kp => valK q l e x fun v => onS v fun w => onIface w (fun _ _ => kp w h) (.err "panic of nil")
noncomputable def oCall (c : Call) : OT := fun q l e h k kp => valsK q l e c.args.toList fun args =>
  Callee.rec (motive := fun _ => RT) (fun f => valK q l e f fun f => onS f fun f => callV q.cx q.call f args h k kp) (fun r name => valK q l e r fun r => onS r fun r => callMeth q.cx q.call r name args h k kp)
    (fun b => bltE b q.cx c.argTypes args h k) c.callee

abbrev KF := RV → F → H → RT
abbrev PT := Q → Env → Env → F → H → KF → KP → RT
/-- An operation that leaves the frame as it is. -/
noncomputable def lift (f : OT) : PT := fun q l e fr h k kp => f q l e h (fun v => k v fr) kp
noncomputable def F.push (f : Ce) (args : List RV) (fr : F) : F := F.rec (motive := fun _ => F) (fun ds rc => .mk (.cons f args ds) rc) fr
noncomputable def oDefer (c : Call) : PT := fun q l e fr h k kp => valsK q l e c.args.toList fun args =>
  Callee.rec (motive := fun _ => RT) (fun f => valK q l e f fun f => onS f fun f => onFn f fun _ _ _ => k .u (fr.push f args) h) (fun _ _ => .err "defer of a method through an interface") (fun _ => .err "defer of a builtin") c.callee
noncomputable def recE (fr : F) (k : Ce → F → RT) : RT := F.rec (motive := fun _ => RT) (fun ds rc => Rc.rec (motive := fun _ => RT) (.err "recover: not in a deferred call") (fun v => k v (.mk ds .done)) (k (.v .nilIface) (.mk ds .done)) rc) fr
noncomputable def isRec (b : Builtin) : Bool := Nat.beq b.ctorIdx 17
noncomputable def oCallP (c : Call) : PT := fun q l e fr h k kp =>
  Callee.rec (motive := fun _ => RT) (fun _ => lift (oCall c) q l e fr h k kp) (fun _ _ => lift (oCall c) q l e fr h k kp) (fun b => Bool.rec (motive := fun _ => RT) (lift (oCall c) q l e fr h k kp) (recE fr fun v fr => k (.s v) fr h) (isRec b)) c.callee
noncomputable def exO (o : Op) : PT :=
  Op.rec (motive := fun _ => PT) (fun x => lift (oMove x)) (fun x => lift (oMove x)) (fun c a b => lift (oPick c a b)) (fun t => lift (oAlloc t)) (fun t x => lift (oBox t x)) (fun t p => lift (oBuild t p)) (fun t n p => lift (oBuildSlice t n p)) (fun t m x y => lift (oMUpd t m x y)) (fun t a => lift (oLoad t a)) (fun t a x => lift (oStore t a x)) (fun _ => lift oErr) (fun _ => lift oErr) (fun x => lift (oNil x)) (fun o t x y u => lift (oBin o t x y u)) (fun o t x => lift (oUn o t x)) (fun s d x => lift (oConv s d x)) (fun t x => lift (oS2A t x)) (fun t x => lift (oMkI t x)) (fun f a b => lift (oMkF f a b)) (fun t r => lift (oMkM t r)) (fun _ _ => lift oErr) (fun t n c => lift (oMkS t n c)) (fun t x a b c => lift (oSlice t x a b c)) (fun s x f => lift (oFAddr s x f)) (fun s x f => lift (oField s x f)) (fun t x i => lift (oIAddr t x i)) (fun t x i => lift (oIndex t x i)) (fun t x i ok => lift (oLook t x i ok)) (fun t m x y => lift (oMUpd t m x y)) (fun _ _ _ => lift oErr) (fun _ _ _ _ => lift oErr) (fun t x => lift (oRange t x)) (fun i s => lift (oNext i s)) (fun _ => lift oErr) (fun x a b c => lift (oAssert x a b c)) (fun x i => lift (oExtract x i)) oCallP (fun _ => lift oErr) oDefer (fun x => lift (oPanic x)) (fun _ _ => lift oErr) (fun _ _ _ => lift oErr) (fun _ _ => lift oErr) o

/-! ### regions -/
abbrev RG0 := Env → F → H → KE → KQ → RT
/-- Lays a result into its temporary. -/
noncomputable def putT (q : Q) (l e : Env) (d : Nat) (v : RV) (k : Env → Env → RT) : RT := Q.rec (motive := fun _ => RT) (fun _ _ keep => Bool.rec (motive := fun _ => RT) (k (.cons d v l) e) (e.setK d v (k l)) (kept keep d)) q
noncomputable def putK (q : Q) (d : Option Tmp) (l e : Env) (v : RV) (k : Env → Env → RT) : RT := Option.rec (motive := fun _ => RT) (k l e) (fun d => putT q l e d v k) d
/-- Does an operation's guard let it run? -/
noncomputable def wantK (q : Q) (os : List Oper) (l e : Env) (g : Option (Nat × Bool)) (k kn : RT) : RT :=
  Option.rec (motive := fun _ => RT) k (fun p => onSome (lget os p.1) "guard" fun o => onSome o.dst "guard" fun d => tmpK q l e d fun v => RV.rec (motive := fun _ => RT) (fun w => onBool w fun b => ifB (boolEq b p.2) k kn) (fun _ => .err "guard") kn (fun _ _ _ _ => .err "guard") v) g
abbrev KL := Env → Env → F → H → RT
noncomputable def opK (q : Q) (os : List Oper) (o : Oper) (l e : Env) (fr : F) (h : H) (k : KL) (kp : KP) : RT :=
  wantK q os l e o.guard (exO o.op q l e fr h (fun v fr h => putK q o.dst l e v fun l e => k l e fr h) kp) (putK q o.dst l e .u fun l e => k l e fr h)
noncomputable def opsK (os l : List Oper) : Q → Env → Env → F → H → KE → KQ → RT :=
  List.rec (motive := fun _ => Q → Env → Env → F → H → KE → KQ → RT) (fun q l e fr h k _ => k e fr h)
    (fun o _ ih q l e fr h k kp => opK q os o l e fr h (fun l e fr h => ih q l e fr h k kp) (fun v h => kp e fr v h)) l
noncomputable def regE (os : List Oper) : Q → RG0 := fun q e fr h k kp => opsK os os q .nil e fr h k kp

/-! ### drawing regions: run in the text's order; a load must give the same in every heap that it may meet -/
noncomputable def eSame : RT := .err "a load that may meet two values"
noncomputable def optEq (a b : Option Nat) (k : RT) : RT := Option.rec (motive := fun _ => RT) (Option.rec (motive := fun _ => RT) k (fun _ => eSame) b) (fun x => Option.rec (motive := fun _ => RT) eSame (fun y => ifB (Nat.beq x y) k eSame) b) a
noncomputable def sameK (rec_ : Value → Value → RT → RT) (x y : Ce) (k : RT) : RT :=
  Ce.rec (motive := fun _ => RT) (fun j a => y.onI eSame fun i b => ifB (kindEq j i) (ifB (natEqInt a b) k eSame) eSame) (fun a => y.onB eSame fun b => ifB (boolEq a b) k eSame) (fun b o => y.onP eSame fun c p => ifB (Nat.beq b c) (ifB (Nat.beq o p) k eSame) eSame)
    (fun b o n m => y.onSl eSame fun c p i j => ifB (Nat.beq b c) (ifB (Nat.beq o p) (ifB (Nat.beq n i) (ifB (Nat.beq m j) k eSame) eSame) eSame) eSame) (fun s => y.onSt eSame fun t => ifB (leq s t) k eSame) (fun v => y.onV eSame fun w => rec_ v w k) x
noncomputable def same1 (v w : Value) (k : RT) : RT :=
  (fun (e : RT) => Value.casesOn (motive_1 := fun _ => RT) v (fun _ => e) (fun _ _ => e) (fun _ _ => e) (fun _ _ _ => e) (fun _ => e) (fun a => Option.rec (motive := fun _ => RT) (onPtr (.v w) k fun _ _ => e) (fun _ => e) a) (fun a n m => Option.rec (motive := fun _ => RT) (onSl (.v w) (fun i j => ifB (Nat.beq n i) (ifB (Nat.beq m j) k e) e) fun _ _ _ _ => e) (fun _ => e) a)
    (fun a => onMap (.v w) fun b => optEq a b k) (fun _ => e) (fun _ _ _ => e) (nilKind w fun i b => ifB (Nat.beq i 3) (ifB b k e) e) (fun _ _ => e) (nilKind w fun i b => ifB (Nat.beq i 4) (ifB b k e) e) (fun _ => e) (fun _ => e)) eSame
noncomputable def vAgg (v : Value) (k : List Value → RT) : RT := (fun (e : RT) => Value.casesOn (motive_1 := fun _ => RT) v (fun _ => e) (fun _ _ => e) (fun _ _ => e) (fun _ _ _ => e) (fun _ => e) (fun _ => e) (fun _ _ _ => e) (fun _ => e) (fun _ => e) (fun _ _ _ => e) e (fun _ _ => e) e (fun cs => k cs.toList) (fun _ => e)) eSame
noncomputable def sameVs (f : Value → Value → RT → RT) (a : List Value) : List Value → RT → RT :=
  List.rec (motive := fun _ => List Value → RT → RT) (fun b k => List.rec (motive := fun _ => RT) k (fun _ _ _ => eSame) b) (fun x _ ih b k => List.rec (motive := fun _ => RT) eSame (fun y t _ => f x y (ih t k)) b) a
noncomputable def sameV (n : Nat) : Value → Value → RT → RT := Nat.rec (motive := fun _ => Value → Value → RT → RT) (fun _ _ _ => eSame) (fun _ ih v w k =>
  (fun (e : RT) => Value.casesOn (motive_1 := fun _ => RT) v (fun _ => e) (fun _ _ => e) (fun _ _ => e) (fun _ _ _ => e) (fun _ => e) (fun _ => e) (fun _ _ _ => e) (fun _ => e) (fun _ => e) (fun _ _ _ => e) e
    (fun t p => vIface w (fun u q => ifB (Nat.beq t u) (ih p q k) eSame) eSame) e (fun cs => vAgg w fun ds => sameVs ih cs.toList ds k) (fun _ => e)) (toCeK v fun x => toCeK w fun y => sameK same1 x y k)) n
noncomputable def same2 : Value → Value → RT → RT := sameV 8
noncomputable def sameL (a : List Ce) : List Ce → RT → RT :=
  List.rec (motive := fun _ => List Ce → RT → RT) (fun b k => List.rec (motive := fun _ => RT) k (fun _ _ _ => eSame) b) (fun x _ ih b k => List.rec (motive := fun _ => RT) eSame (fun y t _ => sameK same2 x y (ih t k)) b) a
/-- A rope's sizes are right. -/
noncomputable def Cs.goodB (c : Cs) : Bool := Cs.rec (motive := fun _ => Bool) true (fun _ _ => true) (fun n a b ga gb => ifB (Nat.beq n (a.size + b.size)) (ifB ga gb false) false) c
noncomputable def sameR (x y : RV) (k : RT) : RT := RV.rec (motive := fun _ => RT) (fun v => onS y fun w => sameK same2 v w k) (fun c => ifB c.goodB (onA y fun d => ifB d.goodB (sameL c.toL d.toL k) eSame) eSame) eSame (fun _ _ _ _ => eSame) x

/-- What an operation gives by itself. -/
noncomputable def exV (q : Q) (o : Oper) (l e : Env) (fr : F) (h : H) : RT := exO o.op q l e fr h (fun v _ h => .ok v h) (fun v h => .pan v h)
noncomputable def onOk (r : RT) (k : RV → H → RT) : RT := RT.rec (motive := fun _ => RT) k (fun _ _ => .err "a panic in a drawing region") (fun s => .err s) r
/-- The number from which on no handle is made. -/
def big : Nat := 4611686018427387904
noncomputable def bigH : H := .mk .nil big
/-- A load that later effects must not change: how many effects it may stand behind at most, how it is done again, what it gave. -/
inductive Pl where
  | nil : Pl
  | cons (hi : Nat) (again : H → RT) (v : RV) (r : Pl) : Pl
noncomputable def oldK (again : H → RT) (v : RV) (hs : List H) (k : RT) : Nat → RT := List.rec (motive := fun _ => Nat → RT) (fun _ => k) (fun h _ ih n => Nat.rec (motive := fun _ => RT) k (fun n _ => onOk (again h) fun x _ => sameR v x (ih n)) n) hs
noncomputable def newK (h : H) (m : Nat) (pl : Pl) (k : RT) : RT := Pl.rec (motive := fun _ => RT) k (fun hi again v _ ih => ifB (Nat.ble m hi) (onOk (again h) fun x _ => sameR v x ih) ih) pl
abbrev KD := Env → Env → H → List H → Nat → Pl → RT
noncomputable def effD (q : Q) (dst : Option Tmp) (l e : Env) (h : H) (hs : List H) (m : Nat) (pl : Pl) (k : KD) (v : RV) (h1 : H) : RT :=
  ifB (Nat.ble h1.nx big) (natK (m + 1) fun m => newK h1 m pl (putK q dst l e v fun l e => k l e h1 (h :: hs) m pl)) (.err "too many blocks")
noncomputable def opD (q : Q) (os : List Oper) (o : Oper) (d : Dk) (l e : Env) (fr : F) (h : H) (hs : List H) (m : Nat) (pl : Pl) (k : KD) : RT :=
  Dk.rec (motive := fun _ => RT)
    (wantK q os l e o.guard (onOk (exV q o l e fr bigH) fun v h1 => ifB (Nat.beq h1.nx big) (putK q o.dst l e v fun l e => k l e h hs m pl) (.err "a pure operation that makes a block")) (putK q o.dst l e .u fun l e => k l e h hs m pl))
    (fun lo hi => wantK q os l e o.guard (onOk (exV q o l e fr h) fun v _ => oldK (exV q o l e fr) v hs (putK q o.dst l e v fun l1 e1 => k l1 e1 h hs m (.cons hi (exV q o l e fr) v pl)) (m - lo)) (putK q o.dst l e .u fun l e => k l e h hs m pl))
    (wantK q os l e o.guard (onOk (exV q o l e fr h) fun v h1 => effD q o.dst l e h hs m pl k v h1) (effD q o.dst l e h hs m pl k .u h)) d
noncomputable def opsD (os l : List Oper) : List Dk → Q → Env → Env → F → H → List H → Nat → Pl → (Env → H → RT) → RT :=
  List.rec (motive := fun _ => List Dk → Q → Env → Env → F → H → List H → Nat → Pl → (Env → H → RT) → RT) (fun _ q l e fr h _ _ _ k => k e h)
    (fun o _ ih ds q l e fr h hs m pl k => List.rec (motive := fun _ => RT) (.err "a drawing region that is not told") (fun d ds _ => opD q os o d l e fr h hs m pl (fun l e h hs m pl => ih ds q l e fr h hs m pl k)) ds) l
noncomputable def regD (os : List Oper) (ds : List Dk) (q : Q) : RG0 := fun e fr h k kp => ifB (Nat.ble h.nx big) (opsD os os ds q .nil e fr h [] 0 .nil (fun e h => k e fr h)) (.err "too many blocks")

/-! ### the loop that copies a map into another one -/
noncomputable def mCopy (a : ML) : ML → (ML → RT) → RT := ML.rec (motive := fun _ => ML → (ML → RT) → RT) (fun b k => k b) (fun key v _ ih b k => mPut b key v fun b => ih b k) a
noncomputable def memN (l : List Nat) (n : Nat) : Bool := List.rec (motive := fun _ => Bool) false (fun x _ ih => orB (Nat.beq x n) ih) l
/-- None of these temporaries is bound. -/
noncomputable def noTs (ts : List Nat) (e : Env) : Bool := Env.rec (motive := fun _ => Bool) true (fun m _ _ ih => ifB (memN ts m) false ih) e
noncomputable def keyI (key : Ce) : Bool := key.onI false fun j _ => kindEq j .i64
noncomputable def keysOk (l : ML) : Bool := ML.rec (motive := fun _ => Bool) true (fun k _ _ ih => ifB (keyI k) ih false) l
noncomputable def sizeOk (sz : Nat) (v : RV) : Bool := RV.rec (motive := fun _ => Bool) (fun _ => false) (fun c => Nat.beq c.size sz) false (fun _ _ _ _ => false) v
noncomputable def valsOk (sz : Nat) (l : ML) : Bool := ML.rec (motive := fun _ => Bool) true (fun _ v _ ih => ifB (sizeOk sz v) ih false) l
/-- 'for k, v := range m { p.f[k] = v }': the iterator's temporary, the place of p, the field's place, the cells of a value, the loop's own temporaries. -/
noncomputable def copyLoop (it p off sz : Nat) (ts : List Nat) (e : Env) (h : H) (k : H → RT) : RT := ifB (noTs ts e) (
  e.getK it fun v => onPlace v fun b bo => ifB (Nat.beq bo 0) (h.getK b fun ob => oMiter ob fun m => h.getK m fun om => oMap om fun l rgm => ifB (notB (Nat.beq rgm (Nat.succ b))) (.err "another iterator") <| ifB (andB (keysOk l) (valsOk sz l)) (
  e.getK p fun v => onPlace v fun pb po => h.getK pb fun op => oCells op fun c _ _ _ => onSome (c.get (po + off)) "the other map's field" fun w => onMap w fun r => onSome r "the other map" fun r => ifB (Nat.beq r m) (.err "a map into itself")
  (h.getK r fun o => oMap o fun l2 rg => ifB (andB (Nat.beq rg 0) (keysOk l2)) (mCopy l l2 fun l2 => h.setK r (.map l2 0) fun h => h.delK b fun h => h.setK m (.map l 0) k) (.err "the other map is ranged over"))) (.err "the map's keys, its values")) (.err "the iterator's place")) (.err "a temporary of the loop's is bound")

/-- A block that is answered by itself: its number, the temporaries, the field, the value's cells, the loop's temporaries. -/
inductive Hk where
  | no : Hk
  | copy (id it p off sz : Nat) (ts : List Nat) : Hk
  | alt (id : Nat) (f : Env → F → H → KE → RT) : Hk
noncomputable def hookK (hk : Hk) (id : Nat) (e : Env) (fr : F) (h : H) (k : KE) (kn : RT) : RT :=
  Hk.rec (motive := fun _ => RT) kn (fun i it p off sz ts => ifB (Nat.beq i id) (copyLoop it p off sz ts e h (fun h => k e fr h)) kn) (fun i f => ifB (Nat.beq i id) (f e fr h k) kn) hk

/-! ### statements -/
/-- The drawing regions' operations; the regions of a function that are told in another way. -/
abbrev Drs := Tr (List Dk)
abbrev Rs := Tr RG
/-- What a body's statements share: the activation, the hook, the regions. -/
inductive B where
  | mk (q : Q) (hk : Hk) (dr : Drs) (rs : Rs) : B
abbrev CT := B → Env → F → H → KE → (Nat → KE) → KE → KQ → RT
noncomputable def condK (q : Q) (e : Env) (c : Operand) (k : Bool → RT) : RT := valK q .nil e c fun v => onS v fun w => onBool w k
noncomputable def regB (id : Nat) (os : List Oper) (draw : Bool) (dr : Drs) (q : Q) : RG0 := Bool.rec (motive := fun _ => RG0) (regE os q) (fun e fr h k kp => onSome (dr.get id) "a drawing region that is not told" fun ds => regD os ds q e fr h k kp) draw
noncomputable def cRegion (id : Nat) (os : List Oper) (draw : Bool) : CT := fun b e fr h kN _ _ kP => B.rec (motive := fun _ => RT) (fun q _ dr rs => Option.rec (motive := fun _ => RG0) (regB id os draw dr q) (fun r => r q.call) (rs.get id) e fr h kN kP) b
noncomputable def cCond (c : Operand) (x y : CT) : CT := fun b e fr h kN kX kR kP => B.rec (motive := fun _ => RT) (fun q _ _ _ => condK q e c fun t => Bool.rec (motive := fun _ => CT) y x t b e fr h kN kX kR kP) b
noncomputable def cBlock (id : Nat) (x : CT) : CT := fun b e fr h kN kX kR kP => B.rec (motive := fun _ => RT) (fun _ hk _ _ => hookK hk id e fr h kN (x b e fr h kN (fun i => Bool.rec (motive := fun _ => KE) (kX i) kN (Nat.beq i id)) kR kP)) b
noncomputable def codeE (again : Code → CT) (c : Code) : CT :=
  Code.rec (motive := fun _ => CT)
    (fun b e fr h kN _ _ _ => kN e fr h)
    (fun id os d => cRegion id os.toList d)
    (fun _ _ x y b e fr h kN kX kR kP => x b e fr h (fun e fr h => y b e fr h kN kX kR kP) kX kR kP)
    (fun c _ _ x y => cCond c x y)
    (fun id _ x => cBlock id x)
    (fun c x b e fr h kN kX kR kP => x b e fr h (fun e fr h => again (.loop c) b e fr h kN kX kR kP) kX kR kP)
    (fun _ _ _ _ _ _ _ _ _ _ _ _ _ _ => .err "range over a function")
    (fun id b e fr h _ kX _ _ => kX id e fr h)
    (fun _ x => x)
    (fun _ b e fr h kN _ _ _ => kN e fr h)
    (fun _ _ _ _ _ _ _ _ _ => .err "goto")
    (fun b e fr h _ _ kR _ => kR e fr h)
    (fun _ _ _ _ _ _ _ _ _ => .err "refused") c
noncomputable def codeR (n : Nat) : Code → CT := Nat.rec (motive := fun _ => Code → CT) (fun _ _ _ _ _ _ _ _ _ => .err "rounds") (fun _ ih => codeE ih) n

/-! ### calls -/
noncomputable def paramE (l : List RV) : Nat → Env := List.rec (motive := fun _ => Nat → Env) (fun _ => .nil) (fun x _ ih n => .cons n x (ih (n + 1))) l
noncomputable def resE (cx : Cx) (e : Env) (h : H) (l : List ResultVar) (k : List RV → RT) : RT :=
  List.rec (motive := fun _ => (List RV → RT) → RT) (fun k => k []) (fun r _ ih k => ResultVar.rec (motive := fun _ => RT) (fun t => e.getK t fun v => ih fun vs => k (v :: vs)) (fun a t => e.getK a fun v => onPlace v fun b o => loadK cx t b o h fun v => ih fun vs => k (v :: vs)) r) l k

/-- How a frame unwinds: returning, or panicking with a value. -/
inductive Md where
  | ret : Md
  | pan (v : Ce) : Md

noncomputable def leaveK (defd : Ce → List RV → Md → H → (Md → H → RT) → RT) (fin : Md → H → RT) (ds : Ds) : Md → H → RT :=
  Ds.rec (motive := fun _ => Md → H → RT) fin (fun f args _ ih md h => defd f args md h ih) ds
noncomputable def rcOf (md : Md) : Rc := Md.rec (motive := fun _ => Rc) .done .pend md
noncomputable def mdOf (md : Md) (rc : Rc) (k : Md → RT) : RT := Md.rec (motive := fun _ => RT) (k .ret) (fun v => Rc.rec (motive := fun _ => RT) (.err "rc") (fun _ => k (.pan v)) (k .ret) rc) md
/-- The end of a deferred call. -/
noncomputable def endD (md : Md) (fr : F) (k : Md → RT) : RT := F.rec (motive := fun _ => RT) (fun ds rc => Ds.rec (motive := fun _ => RT) (mdOf md rc k) (fun _ _ _ _ => .err "a deferred call that defers") ds) fr
noncomputable def finE (cx : Cx) (f : Func) (e : Env) (k : KV) (kp : KP) (md : Md) (h : H) : RT :=
  Md.rec (motive := fun _ => RT) (resE cx e h f.results.toList fun vs => k (oneOr vs) h) (fun v => kp v h) md
/-- A function of the program, the temporaries that live beyond their region, its regions. -/
noncomputable def fnK (cx : Cx) (f : Nat) (k : Func → Nat → Drs → RT) : RT := entK cx f fun x => Entry.rec (motive := fun _ => RT) (fun f _ keep dr _ => k f keep dr) (fun _ => .err "a deferred call of another kind") x
noncomputable def rounds : Nat := 100000
/-- A function without results. -/
noncomputable def noRes (f : Func) (k : RT) : RT := List.rec (motive := fun _ => RT) k (fun _ _ _ => .err "a deferred call with results") f.results.toList
noncomputable def deferE (cx : Cx) (call : CallT) (f : Ce) (args : List RV) (md : Md) (h : H) (k : Md → H → RT) : RT :=
  onFn f fun fn first cap => Fn.rec (motive := fun _ => RT)
    (fun g => fnK cx g fun f keep dr => noRes f <| onSome f.body "no body" fun c => toRVsK first.toList fun xs => toRVsK cap.toList fun ys => codeR rounds c (.mk (.mk cx call keep) .no dr .nil) (paramE (rapp xs (rapp args ys)) 0) (.mk .nil (rcOf md)) h
      (fun _ fr h => endD md fr fun md => k md h) (fun _ _ _ _ => .err "exit") (fun _ fr h => endD md fr fun md => k md h) (fun _ _ _ _ => .err "a panic in a deferred call"))
    (fun _ => .err "defer") (fun _ _ => .err "defer") (fun _ _ _ _ => .err "defer") (fun _ => .err "defer") fn
noncomputable def F.ds (fr : F) : Ds := F.rec (motive := fun _ => Ds) (fun ds _ => ds) fr
noncomputable def bodyE (cx : Cx) (hk : Hk) (keep : Nat) (dr : Drs) (rs : Rs) (call : CallT) (f : Func) (args : List RV) (h : H) (k : KV) (kp : KP) : RT :=
  onSome f.body "a function without a body" fun c => codeR rounds c (.mk (.mk cx call keep) hk dr rs) (paramE args 0) (.mk .nil .no) h
    (fun e fr h => leaveK (deferE cx call) (finE cx f e k kp) fr.ds .ret h) (fun _ _ _ _ => .err "exit out of a function")
    (fun e fr h => leaveK (deferE cx call) (finE cx f e k kp) fr.ds .ret h) (fun e fr v h => leaveK (deferE cx call) (finE cx f e k kp) fr.ds (.pan v) h)
end Go.Ev
end

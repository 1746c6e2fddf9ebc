/- An evaluator of programs by terms that the kernel reduces, and the laws that it tells the truth. Conditions: none. -/
import Derived.Laws.IdiomStrings
import Derived.Laws.LoneSync
import Derived.Lib.Builder
import Derived.Laws.BytesArg
import Derived.Laws.Cover3
import Derived.Lib.UnsafeStr
import Derived.Test.YtcjpaobmdfnpiaaGreatDoorEv2
set_option linter.all false
section
/- Ev, soundness, part 24: the cells of a row or of a text; bytes of a text. Conditions: none. -/
namespace Go.Ev
set_option linter.unusedVariables false
variable {P : Program} {rv : RV} {rh : H}

theorem Addr.add_plain (b o j : Nat) : (⟨b, o, none⟩ : Addr).add j = ⟨b, o + j, none⟩ := by unfold Addr.add; split <;> simp_all

/-- Known cells, from a place on, as the model's. -/
theorem OR.sub {ρ : Rho} {w : World} {c : Cs} {e : TypeId} {exact_ : Bool} {fz b base ex off n : Nat} (h : OR P ρ w.heap (.cells c e exact_ fz) b base ex) (hfit : off + n ≤ c.l.length) :
    ∃ vs : List Value, vs.length = n ∧ CRs ρ ((c.l.drop off).take n) vs ∧ ∀ j v, vs[j]? = some v → w.cell? ⟨b, base + off + j, none⟩ = some v := by
  obtain ⟨hg, arr, lo, hi, hb, hc, hex, hsz, hz⟩ := h
  refine ⟨(arr.toList.drop (base + off)).take n, by simp; omega, VRs.of_get (by simp; omega) fun i x y h1 h2 => ?_, fun j v hj => ?_⟩
  · by_cases hi' : i < n
    · rw [List.map_take, List.map_drop, List.getElem?_take, if_pos hi', List.getElem?_drop, List.getElem?_map] at h1
      rw [List.getElem?_take, if_pos hi', List.getElem?_drop] at h2
      obtain ⟨z, hz1, hz2⟩ := Option.map_eq_some_iff.1 h1
      obtain ⟨v', q1, q2⟩ := hc _ z hz1
      have : arr.toList[base + off + i]? = some v' := by rw [Nat.add_assoc]; simpa using q1
      rw [this] at h2; cases h2
      rw [← hz2]; exact q2
    · rw [List.map_take, List.getElem?_take, if_neg hi'] at h1; cases h1
  · by_cases hi' : j < n
    · rw [List.getElem?_take, if_pos hi', List.getElem?_drop] at hj
      simp [World.cell?, hb]; simpa using hj
    · rw [List.getElem?_take, if_neg hi'] at hj; cases hj

/-- What the cells of a slice or of a text are. -/
inductive Src (P : Program) (ρ : Rho) (w : World) (n size : Nat) : Value → List Value → Prop
  | row (b o m c : Nat) (vs : List Value) (hn : n ≤ m) (hl : vs.length = n * size) (h : ∀ j v, vs[j]? = some v → w.cell? ⟨b, o + j, none⟩ = some v) : Src P ρ w n size (.slice (some ⟨b, o, none⟩) m c) vs
  | str (l : List UInt8) : Src P ρ w n size (.string ⟨⟨l⟩⟩) ((l.take n).map fun x => .int .u8 x.toNat)
  | nil (m c : Nat) : Src P ρ w n size (.slice none m c) []

theorem srcK_ok {ρ : Rho} {h : H} {w : World} {c : Ce} {v : Value} {n size : Nat} {k : Cs → RT} (r : HR P ρ h w) (hv : CR ρ c v) (e : srcK c n size h k = .ok rv rh) :
    ∃ cs vs, k cs = .ok rv rh ∧ cs.good ∧ CRs ρ cs.l vs ∧ Src P ρ w n size v vs := by
  cases c with
  | i j m => cases e
  | b x => cases e
  | p a o => cases e
  | sl a o m cap =>
    obtain ⟨hn, e1⟩ := ifB_t (b := Nat.ble n m) e
    rw [Nat.ble_eq] at hn
    obtain ⟨ob, ho, e2⟩ := getK_ok e1
    obtain ⟨c, el, exact_, fz, rfl, e3⟩ := oCells_ok e2
    obtain ⟨hfit, e4⟩ := ifB_t e3
    obtain ⟨b, base, ex, hρ, rfl⟩ := hv.sl
    obtain ⟨b', base', ex', q1, hor⟩ := r.obj _ _ ho
    rw [hρ] at q1; cases q1
    rw [c.size_eq hor.1, Nat.ble_eq] at hfit
    obtain ⟨c', hk, hg', hl⟩ := Cs.subK_gives hor.1 o (n * size)
    rw [hk] at e4
    obtain ⟨vs, h1, h2, h3⟩ := OR.sub hor hfit
    exact ⟨c', vs, e4, hg', by rw [hl]; exact h2, .row _ _ _ _ _ hn h1 h3⟩
  | st l =>
    have e1 : ltakeK n l (fun l => csOfK l k) = .ok rv rh := e
    rw [ltakeK_eq] at e1
    obtain ⟨c', hk, hg, hl⟩ := csOfK_gives (l.take n)
    rw [hk] at e1
    have := hv.str
    subst this
    refine ⟨c', _, e1, hg, ?_, .str l⟩
    rw [hl]
    show VRs ρ ((byteCells (l.take n)).map Ce.toV) _
    rw [byteCells_toV]
    refine VRs.of_get rfl fun i a b h1 h2 => ?_
    rw [h1] at h2; cases h2
    obtain ⟨x, _, rfl⟩ := by simpa using List.getElem?_eq_some_iff.1 h1
    exact .int _ _
  | v u =>
    rcases onSl_ok (c := .v u) (kn := fun _ _ => k .nil) (k := fun _ _ _ _ => eSrc) e with ⟨m, cap, hc, e1⟩ | ⟨a, o, m, cap, hc, e1⟩
    · cases hc
      cases hv
      exact ⟨.nil, [], e1, trivial, .nil, .nil _ _⟩
    · cases hc

/-- A block of cells is made, with a mark behind its cells. -/
theorem newCells_mark_ok {ρ : Rho} {h : H} {w : World} {c : Cs} {arr : Array Value} {e : TypeId} {ex lo hi : Nat} (r : HR P ρ h w) (hg : c.good) (hv : ∀ (i : Nat) (v : Ce), c.l[i]? = some v → ∃ v', arr[i]? = some v' ∧ CR ρ v v')
    (hsz : c.l.length + ex * P.cellsOf e ≤ arr.size) (hlo : arr.size ≤ lo) :
    ∃ h' ρ', (∀ k, h.newK (.cells c e false 1) k = k h.next h') ∧ ρ' h.next = some (w.heap.size, 0, ex) ∧ HR P ρ' h' (pushed w (.cells arr e (lo, hi))) ∧ St ρ h w ρ' h' (pushed w (.cells arr e (lo, hi))) := by
  obtain ⟨h', hk, hn, ha⟩ := newK_gives h (.cells c e false 1)
  have hsub := Rho.put_sub r.dom (w.heap.size, 0, ex)
  have hor : OR P (ρ.put h.next (w.heap.size, 0, ex)) (w.heap.push (.cells arr e (lo, hi))) (.cells c e false 1) w.heap.size 0 ex := by
    refine ⟨hg, arr, lo, hi, by simp, fun i v hi => ?_, (fun hx => (by cases hx)), by omega, ⟨fun h => (by cases h), fun _ => .inr hlo, fun h => by omega⟩⟩
    obtain ⟨v', h1, h2⟩ := hv i v hi
    exact ⟨v', by simpa using h1, VR.mono hsub h2⟩
  obtain ⟨h1, h2⟩ := new_sound (ob := .cells arr e (lo, hi)) r hn ha hor (fun j h => by cases h)
  exact ⟨h', _, hk, ρ.put_same _ _, h1, h2⟩

/-- A block's mark behind its last cell. -/
theorem mark_sound {ρ : Rho} {h : H} {w : World} {a b base ex fz : Nat} {c : Cs} {e : TypeId} {exact_ : Bool} (r : HR P ρ h w) (ho : h.at a = some (.cells c e exact_ fz)) (hfz : fz ≤ 1) (hρ : ρ a = some (b, base, ex)) (o : Nat) :
    ∃ h' w', (∀ k, h.setK a (.cells c e exact_ 1) k = k h') ∧ (markStringish ⟨b, o, none⟩).run P w = .ok () w' ∧ HR P ρ h' w' ∧ St ρ h w ρ h' w' := by
  obtain ⟨b', base', ex', q1, hor⟩ := r.obj _ _ ho
  rw [hρ] at q1; cases q1
  obtain ⟨hg, arr, lo, hi, hb, hc, hex, hsz, hz⟩ := hor
  have hsh : w.shape? b = some (e, arr.size) := by simp [World.shape?, hb]
  have hfr : (w.freeze ⟨b, arr.size, none⟩ 1).heap = w.heap.modify b fun
      | .cells c elem (lo, hi) => .cells c elem (if lo == hi then (arr.size, arr.size + 1) else (min lo arr.size, max hi (arr.size + 1)))
      | o => o := by
    unfold World.freeze; rw [if_neg (by decide)]; rfl
  have hnew : ∃ lo' hi', (w.freeze ⟨b, arr.size, none⟩ 1).heap[b]? = some (.cells arr e (lo', hi')) ∧ arr.size ≤ lo' := by
    have hq : (w.freeze ⟨b, arr.size, none⟩ 1).heap[b]? = some (.cells arr e (if lo == hi then (arr.size, arr.size + 1) else (min lo arr.size, max hi (arr.size + 1)))) := by
      rw [hfr]; simp [Array.getElem?_modify, hb]
    by_cases h1 : (lo == hi) = true
    · rw [if_pos h1] at hq; exact ⟨_, _, hq, Nat.le_refl _⟩
    · rw [if_neg h1] at hq
      refine ⟨_, _, hq, ?_⟩
      rcases hz.behind hfz with h2 | h2
      · subst h2; simp at h1
      · omega
  obtain ⟨lo', hi', h1, h2⟩ := hnew
  obtain ⟨h', hk, hn, ha⟩ := setK_gives h a (.cells c e exact_ 1)
  refine ⟨h', w.freeze ⟨b, arr.size, none⟩ 1, hk, by simp [markStringish, hsh], set_sound (o := .cells c e exact_ fz) (o' := .cells c e exact_ 1) r ho hρ hn ha ?_ (fun i hi => ?_) ?_ ?_ ?_ (fun c' _ => r.noMit ho c') (fun j hj => by cases hj)⟩
  · rw [hfr]; simp
  · rw [hfr]; simp [Array.getElem?_modify, Ne.symm hi]
  · unfold World.freeze; rw [if_neg (by decide)]; exact ⟨rfl, rfl, rfl⟩
  · exact ⟨hg, arr, lo', hi', h1, hc, hex, hsz, ⟨fun h => (by cases h), fun _ => .inr h2, fun h => by omega⟩⟩
  · intro m j x y hm hj
    obtain ⟨bb, bs, exx, k1, bm, x', y', k2, k3, es, clk, k4, k5⟩ := r.obj m _ hm
    rw [hj] at k2; cases k2
    rw [hb] at k4; cases k4
end Go.Ev
end
section
/- Ev, soundness, part 25: conversions. Conditions: none. -/
namespace Go.Ev
set_option linter.unusedVariables false
variable {P : Program} {rv : RV} {rh : H}

/-- What reads alone. -/
def Read (P : Program) (rv : RV) (rh : H) (ρ : Rho) (h : H) (w : World) (k : KV) (sem : Sem Value) : Prop := ∃ y u, k y h = .ok rv rh ∧ RR ρ y u ∧ sem.run P w = .ok u w

theorem Made.of_read {ρ : Rho} {h : H} {w : World} {k : KV} {sem : Sem Value} (r : HR P ρ h w) (e : Read P rv rh ρ h w k sem) : Made P rv rh ρ h w k sem :=
  let ⟨y, u, e1, e2, e3⟩ := e
  ⟨y, u, h, ρ, w, e1, e3, r, St.refl _ _ _, e2⟩

theorem dUns_ok {d : TypeDesc} {k : RT} (e : dUns d k = .ok rv rh) : d = .unsafePointer ∧ k = .ok rv rh := by cases d with
  | unsafePointer => exact ⟨rfl, e⟩
  | _ => cases e

theorem liesL_ok {e u : Nat} : ∀ {ls : List (Nat × Nat)}, liesL e u ls = true → (e, u) ∈ ls := by
  intro ls
  induction ls with
  | nil => intro h; cases h
  | cons p l ih =>
    intro h
    have h' : ifB (Nat.beq p.1 e) (ifB (Nat.beq p.2 u) true (liesL e u l)) (liesL e u l) = true := h
    obtain ⟨a, b⟩ := p
    by_cases h1 : a = e
    · subst h1
      rw [show Nat.beq a a = true from by simp] at h'
      by_cases h2 : b = u
      · subst h2; exact .head _
      · rw [beq_dec] at h'; simp [h2, ifB] at h'; exact .tail _ (ih h')
    · have : Nat.beq a e = false := by rw [beq_dec]; simp [h1]
      rw [this] at h'; exact .tail _ (ih h')
theorem liesK_ok {cx : Cx} {e u : Nat} {k : RT} (h : liesK cx e u k = .ok rv rh) : (e, u) ∈ cx.ls ∧ k = .ok rv rh := by
  cases cx with
  | mk fn ty ls => obtain ⟨h1, h2⟩ := ifB_t (b := liesL e u ls) h; exact ⟨liesL_ok h1, h2⟩

theorem encode_ascii {m : Nat} (h : m < 128) : Utf8.encode (m : Int) = ⟨#[UInt8.ofNat m]⟩ := by
  have hv : Utf8.valid (m : Int) = true := by simp [Utf8.valid]; omega
  simp [Utf8.encode, hv, h]

theorem conv_read {cx : Cx} (hcx : CxOk P cx) {ρ : Rho} {h : H} {w : World} {s d : Nat} {x : RV} {v : Value} {k : KV} (r : HR P ρ h w) (hx : RR ρ x v) (hd : P.underlying d = some .string) (e : pConv cx s d x h k = .ok rv rh) : Read P rv rh ρ h w k (convert s d v) := by
  obtain ⟨c, rfl, e1⟩ := onS_ok e
  obtain ⟨sd, hs, e2⟩ := underK_ok hcx e1
  obtain ⟨dd, hd', e3⟩ := underK_ok hcx e2
  rw [hd] at hd'; cases hd'
  have hv := hx.scalar
  rcases dStr_ok (d := sd) e3 with ⟨rfl, e4⟩ | ⟨_, e4⟩
  · obtain ⟨l, rfl, e5⟩ := onStr_ok e4
    have := hv.str; subst this
    exact ⟨_, _, e5, hx, by simp [convert, run_underlying hs, run_underlying hd]⟩
  · rcases dInt_ok e4 with ⟨j, rfl, e5⟩ | ⟨_, e5⟩
    · obtain ⟨i, n, rfl, e6⟩ := onInt_ok e5
      obtain ⟨m, rfl, e7⟩ := iabs_ok e6
      obtain ⟨hm, e8⟩ := ifB_t e7
      have hm' : m < 128 := by simpa [Nat.blt_eq] using hm
      have := hv.int; subst this
      refine ⟨_, _, e8, .s _ _ (VR.str _), ?_⟩
      have := encode_ascii hm'
      simp [convert, run_underlying hs, run_underlying hd, Conv.intToString, this]
    · obtain ⟨el, rfl, e6⟩ := dSlice_ok e5
      obtain ⟨ed, he, e7⟩ := underK_ok hcx e6
      rcases dInt_ok e7 with ⟨j, rfl, e8⟩ | ⟨_, e8⟩
      · rcases ifB_ok e8 with ⟨hj, e9⟩ | ⟨_, e9⟩
        · have hj' := kindEq_spec hj
          subst hj'
          rcases onSl_ok e9 with ⟨n, m, rfl, e10⟩ | ⟨a, o, n, m, rfl, e10⟩
          · cases hv
            exact ⟨_, _, e10, .s _ _ (VR.str _), run_convert_bytes_nil w s el hs he n m d hd⟩
          · obtain ⟨cs, vs, e11, hg, hcs, hsrc⟩ := srcK_ok r hv e10
            obtain ⟨l, e12, ns, hns, rfl⟩ := bytesK_ok e11
            have hvs : vs = ns.map fun n => .int .u8 (n : Int) := by
              rw [hns] at hcs
              clear hsrc hns e11 e12
              induction ns generalizing vs with
              | nil => cases hcs; rfl
              | cons n ns ih =>
                cases hcs with
                | cons _ v' _ l' h1 h2 => cases h1; rw [ih l' h2]; rfl
            obtain ⟨bb, base, ex, hρ, rfl⟩ := hv.sl
            cases hsrc with
            | row _ _ _ _ _ hn hl hcell =>
            have hlen : ns.length = n := by rw [hvs] at hl; simpa using hl
            refine ⟨_, _, e12, .s _ _ (VR.str _), ?_⟩
            have := run_convert_bytes_arg (P := P) w s el hs he bb (base + o) n (m + ex) (ns.map Int.ofNat) (by simpa using hlen) (fun i hi => hcell i _ (by
              rw [hvs]; simp [List.getElem?_eq_getElem (show i < ns.length by omega), List.getD])) d hd
            rw [this]
            simp [strOfNums, Function.comp_def]
        · cases e9
      · cases e8

theorem pConv_ok {cx : Cx} (hcx : CxOk P cx) {ρ : Rho} {h : H} {w : World} {s d : Nat} {x : RV} {v : Value} {k : KV} (r : HR P ρ h w) (hx : RR ρ x v) (e : pConv cx s d x h k = .ok rv rh) : Made P rv rh ρ h w k (convert s d v) := by
  obtain ⟨c, rfl, e1⟩ := onS_ok e
  obtain ⟨sd, hs, e2⟩ := underK_ok hcx e1
  obtain ⟨dd, hd, e3⟩ := underK_ok hcx e2
  have hv := hx.scalar
  cases dd with
  | int j =>
    obtain ⟨i, n, rfl, e4⟩ := onInt_ok (c := c) e3
    rw [intK_eq, wrapF_eq] at e4
    have := hv.int; subst this
    refine .of_pure r ⟨_, _, e4, .s _ _ (VR.int _ _), fun w => ?_⟩
    cases sd <;> simp [convert, run_underlying hs, run_underlying hd, Conv.intToInt]
  | string => exact .of_read r (conv_read hcx r hx hd e)
  | unsafePointer =>
    obtain ⟨el, rfl, e4⟩ := dPtr_ok (d := sd) e3
    obtain ⟨ti, hti, e5⟩ := tyK_ok hcx e4
    rcases ifB_ok e5 with ⟨_, e6⟩ | ⟨hz, e6⟩
    · cases e6
    rcases onPtr_ok e6 with ⟨_, e7⟩ | ⟨a, o, rfl, e7⟩
    · cases e7
    obtain ⟨ob, ho, e8⟩ := getK_ok e7
    obtain ⟨c, te, exact_, fz, rfl, e9⟩ := oCells_ok e8
    rcases ifB_ok e9 with ⟨hlt, e10⟩ | ⟨_, e10⟩
    · obtain ⟨b, base, ex, hρ, rfl⟩ := hx.place
      obtain ⟨b', base', ex', q1, hor⟩ := r.obj _ _ ho
      rw [hρ] at q1; cases q1
      obtain ⟨hg, arr, lo, hi, hb, hc, hex, hsz, hzz⟩ := hor
      have hlt' : o < c.l.length := by rw [c.size_eq hg] at hlt; simpa [Nat.blt_eq] using hlt
      obtain ⟨v', h1, h2⟩ := hc o _ (List.getElem?_eq_getElem hlt')
      have hne : ti.size ≠ 0 := fun h => by rw [h] at hz; cases hz
      refine .of_read r ⟨_, _, e10, hx, ?_⟩
      exact run_convert_to_unsafe (v := v') hs hd (by rw [hti]; simp [hne]) (by simp [World.cell?, hb, h1])
    · cases e10
  | pointer el =>
    obtain ⟨rfl, e4⟩ := dUns_ok (d := sd) e3
    rcases onPtr_ok e4 with ⟨_, e5⟩ | ⟨a, o, rfl, e5⟩
    · cases e5
    obtain ⟨ob, ho, e6⟩ := getK_ok e5
    obtain ⟨c, te, exact_, fz, rfl, e7⟩ := oCells_ok e6
    rcases ifB_ok e7 with ⟨ht, e8⟩ | ⟨_, e8⟩
    · rw [andB_eq, Bool.and_eq_true] at ht
      have ho0 := Nat.eq_of_beq_eq_true ht.2
      subst ho0
      obtain ⟨ti, hti, e9⟩ := tyK_ok hcx e8
      rcases ifB_ok e9 with ⟨hsz0, e10⟩ | ⟨_, e10⟩
      · obtain ⟨hl, e11⟩ := liesK_ok e10
        obtain ⟨l1, l2, l3⟩ := hcx.lies _ hl
        obtain ⟨j, hj⟩ := Option.isSome_iff_exists.1 l3
        obtain ⟨b, base, ex, hρ, rfl⟩ := hx.place
        obtain ⟨b', base', ex', q1, hor⟩ := r.obj _ _ ho
        rw [hρ] at q1; cases q1
        obtain ⟨hg, arr, lo, hi, hb, hc, hex, hsz, hzz⟩ := hor
        obtain ⟨_, rfl, harr⟩ := hex ht.1
        have hcs := Nat.eq_of_beq_eq_true hsz0
        rw [c.size_eq hg] at hcs
        have hco : P.cellsOf te = ti.size := by simp [Program.cellsOf, hti]
        have hdiv : arr.size / P.cellsOf te = 1 := by
          rw [harr, hcs, ← hco]; exact Nat.div_self (Nat.pos_of_ne_zero l2)
        refine .of_read r ⟨_, _, e11, hx, ?_⟩
        exact Lib.run_from_unsafe (e := te) (cells := arr.size) w ⟨b, 0 + 0, none⟩ hs hd hj (by simp [World.shape?, hb]) (by rw [hdiv]; exact l1)
      · cases e10
    · cases e8
  | slice el =>
    obtain ⟨ed, he, e4⟩ := underK_ok hcx e3
    rcases dInt_ok e4 with ⟨j, rfl, e5⟩ | ⟨_, e5⟩
    · rcases ifB_ok e5 with ⟨hj, e6⟩ | ⟨_, e6⟩
      · have hj' := kindEq_spec hj
        subst hj'
        rcases dStr_ok e6 with ⟨rfl, e7⟩ | ⟨_, e7⟩
        · obtain ⟨l, rfl, e8⟩ := onStr_ok e7
          obtain ⟨ti, hti, e9⟩ := tyK_ok hcx e8
          rcases ifB_ok e9 with ⟨h1, e10⟩ | ⟨_, e10⟩
          · have hsz := Nat.eq_of_beq_eq_true h1
            obtain ⟨cs, hk, hg, hl⟩ := csOfK_gives l
            rw [hk, natK_eq, llen_eq] at e10
            have := hv.str; subst this
            have hrun := run_bytes_of_string (P := P) w s d el ⟨⟨l⟩⟩ hs hd he
            have hge := grownCap_ge w l.length 0 el
            have hco : P.cellsOf el = 1 := by simp [Program.cellsOf, hti, hsz]
            have hsize : (⟨⟨l⟩⟩ : ByteArray).size = l.length := rfl
            rw [hsize] at hrun
            obtain ⟨ex, hex⟩ : ∃ ex, grownCap w l.length 0 el = l.length + ex := ⟨grownCap w l.length 0 el - l.length, by omega⟩
            rw [hex] at hrun
            have hbl : (bytesRow ⟨⟨l⟩⟩ (l.length + ex)).size = l.length + ex := by simp [bytesRow, hsize]
            obtain ⟨h', ρ', hk2, hρ, hr, hst⟩ := newCells_mark_ok (arr := bytesRow ⟨⟨l⟩⟩ (l.length + ex)) (e := el) (ex := ex) (lo := (bytesRow ⟨⟨l⟩⟩ (l.length + ex)).size) (hi := (bytesRow ⟨⟨l⟩⟩ (l.length + ex)).size + 1) (r.drew (w.drawn + 1)) hg (fun i v hi => by
                rw [hl] at hi
                have hi' : ∃ a, (∃ h : i < l.length, l[i] = a) ∧ Ce.i .u8 (.ofNat a.toNat) = v := by simpa [byteCells, List.getElem?_eq_some_iff] using hi
                obtain ⟨_, ⟨hi1, rfl⟩, rfl⟩ := hi'
                exact ⟨_, bytesRow_at ⟨⟨l⟩⟩ _ i hi1, VR.int _ _⟩)
              (by rw [hbl, hl, hco]; simp [byteCells]) (Nat.le_refl _)
            rw [hk2] at e10
            refine ⟨_, _, h', ρ', _, e10, hrun, hr, (St.drew ρ h w (w.drawn + 1)).trans hst, .s _ _ ?_⟩
            exact VR.sl (ρ := ρ') h.next 0 l.length l.length w.heap.size 0 ex hρ
          · cases e10
        · rcases ifB_ok e7 with ⟨hsd, e8⟩ | ⟨_, e8⟩
          · have hsd' := Nat.eq_of_beq_eq_true hsd
            subst hsd'
            rw [hs] at hd; cases hd
            rcases onSl_ok e8 with ⟨n, m, rfl, e9⟩ | ⟨a, o, n, m, rfl, e9⟩
            · cases e9
            obtain ⟨ob, ho, e10⟩ := getK_ok e9
            obtain ⟨c, te, exact_, fz, rfl, e11⟩ := oCells_ok e10
            obtain ⟨hfz, e12⟩ := ifB_t e11
            rw [Nat.ble_eq] at hfz
            obtain ⟨b, base, ex, hρ, rfl⟩ := hv.sl
            obtain ⟨h', w', hk, hw, hr, hst⟩ := mark_sound r ho hfz hρ (base + o)
            rw [hk] at e12
            refine ⟨_, _, h', ρ, w', e12, ?_, hr, hst, hx⟩
            simp [convert, run_underlying hs, run_underlying he, hw]
          · cases e8
      · cases e6
    · cases e5
  | _ => cases e3
end Go.Ev
end
section
/- Ev, soundness, part 26: what an operation comes to; methods; calls of function values. Conditions: none. -/
namespace Go.Ev
set_option linter.unusedVariables false
variable {P : Program} {rv : RV} {rh : H}

/-- Values stand to values, one by one. -/
inductive RRs (ρ : Rho) : List RV → List Value → Prop
  | nil : RRs ρ [] []
  | cons (x : RV) (v : Value) (l : List RV) (m : List Value) (e : RR ρ x v) (e' : RRs ρ l m) : RRs ρ (x :: l) (v :: m)
theorem RRs.mono {ρ ρ' : Rho} (hs : ρ.sub ρ') {l : List RV} {m : List Value} (h : RRs ρ l m) : RRs ρ' l m := by
  induction h with
  | nil => exact .nil
  | cons x v l m e _ ih => exact .cons x v l m (e.mono hs) ih
theorem RRs.append {ρ : Rho} {a b : List RV} {x y : List Value} (h : RRs ρ a x) (h' : RRs ρ b y) : RRs ρ (a ++ b) (x ++ y) := by
  induction h with
  | nil => exact h'
  | cons x v l m e _ ih => exact .cons x v _ _ e ih

/-- What a call comes to. -/
def Ended (P : Program) (rv : RV) (rh : H) (ρ : Rho) (h : H) (w : World) (k : KV) (kp : KP) : Ending → World → Prop
  | .returned v, w' => ∃ x h' ρ', k x h' = .ok rv rh ∧ HR P ρ' h' w' ∧ St ρ h w ρ' h' w' ∧ RR ρ' x v
  | .panicked chain, w' => ∃ c v h' ρ', chain = [{ v, recovered := false }] ∧ kp c h' = .ok rv rh ∧ HR P ρ' h' w' ∧ St ρ h w ρ' h' w' ∧ CR ρ' c v
  | .outgrown, _ => False
/-- What an operation comes to. -/
def NextOk (P : Program) (rv : RV) (rh : H) (ρ : Rho) (h : H) (w : World) (k : KV) (kp : KP) : Result Next → Prop
  | .ok (.value v) w' => Ended P rv rh ρ h w k kp (.returned v) w'
  | .ok .skip w' => ∃ h' ρ', k .u h' = .ok rv rh ∧ HR P ρ' h' w' ∧ St ρ h w ρ' h' w'
  | .ok (.enter f args) w' => Calls P f args w' (Ended P rv rh ρ h w k kp)
  | .halt (.panic v) w' => ∃ c h' ρ', kp c h' = .ok rv rh ∧ HR P ρ' h' w' ∧ St ρ h w ρ' h' w' ∧ CR ρ' c v
  | _ => False
theorem NextOk.of_made {ρ : Rho} {h : H} {w : World} {k : KV} {kp : KP} {s : Sem Value} (m : Made P rv rh ρ h w k s) : NextOk P rv rh ρ h w k kp ((do pure (.value (← s)) : Sem Next).run P w) := by
  obtain ⟨x, v, h', ρ', w', h1, h2, h3, h4, h5⟩ := m
  simp only [Sem.run_bind, h2, Result.andThen_ok, Sem.run_pure]
  exact ⟨x, h', ρ', h1, h3, h4, h5⟩
/-- Every call that is answered is the program's. -/
def CallOk (P : Program) (call : CallT) : Prop :=
  ∀ {rv : RV} {rh : H} {ρ : Rho} {h : H} {w : World} {f : Nat} {args : List RV} {vs : List Value} {k : KV} {kp : KP}, HR P ρ h w → RRs ρ args vs → call f args h k kp = .ok rv rh → NextOk P rv rh ρ h w k kp ((callFunc f vs.toArray).run P w)

/-! ### methods -/
theorem findM_ok {name : String} : ∀ {l : List Method} {k : Method → RT}, findM name l k = .ok rv rh → ∃ m, l.find? (·.name == name) = some m ∧ k m = .ok rv rh := by
  intro l
  induction l with
  | nil => intro k e; cases e
  | cons m l ih =>
    intro k e
    rcases ifB_ok (b := m.name == name) (t := k m) (e := findM name l k) e with ⟨h1, e1⟩ | ⟨h1, e1⟩
    · exact ⟨m, by simp [h1], e1⟩
    · obtain ⟨m', h2, h3⟩ := ih e1
      exact ⟨m', by rw [List.find?_cons, h1]; exact h2, h3⟩

theorem recvK_ok {cx : Cx} (hcx : CxOk P cx) {xt : Nat} {x : RV} {ptr : Bool} {k : RV → RT} (e : recvK cx xt x ptr k = .ok rv rh) :
    k x = .ok rv rh ∧ ∀ (v : Value) (o : Option String) (w : World), (receiverAt xt (.val v) ptr o).run P w = .ok v w := by
  obtain ⟨d, hu, e1⟩ := underK_ok hcx e
  cases ptr with
  | true =>
    obtain ⟨t, rfl, e2⟩ := dPtr_ok (d := d) (k := fun _ => k x) e1
    exact ⟨e2, fun v o w => by simp [receiverAt, run_underlying hu, Place.get]⟩
  | false =>
    cases d <;> first | (cases e1; done) | exact ⟨e1, fun v o w => by simp [receiverAt, run_underlying hu, Place.get]⟩

theorem methK_ok {cx : Cx} (hcx : CxOk P cx) {ρ : Rho} {t : Nat} {u v : Value} {name : String} {k : Nat → Bool → RV → RT} (hv : VR ρ u v) (e : methK cx t u name k = .ok rv rh) :
    ∃ f p x y, k f p x = .ok rv rh ∧ RR ρ x y ∧ ∀ n w, (method (n + 1) t v name).run P w = .ok (f, y) w ∧ (p = true → (nilAhead (n + 1) t v name).run P w = .ok (some false) w) := by
  obtain ⟨i, hi, e1⟩ := tyK_ok hcx e
  obtain ⟨m, hm, e2⟩ := findM_ok e1
  obtain ⟨⟨f, p⟩, hf, e3⟩ := onSome_ok e2
  have hm' : i.methods.find? (·.name == name) = some m := by rw [← Array.find?_toList]; exact hm
  rcases m with ⟨mname, sig, path, func⟩
  simp only at hf e3
  subst hf
  rcases path with ⟨path⟩
  cases path with
  | nil =>
    obtain ⟨x, e4, hx⟩ := toRVK_ok (k := fun x => recvK cx t x p (k f p)) hv e3
    obtain ⟨e5, hr⟩ := recvK_ok hcx e4
    refine ⟨f, p, x, v, e5, hx, fun n w => ⟨?_, fun hp => ?_⟩⟩
    · simp [method, typeInfo, hi, hm', follow, hr]
    · simp [nilAhead, typeInfo, hi, hm', followBlind, hp]
  | cons s l =>
    cases l with
    | cons a b => cases e3
    | nil =>
      have e4 : ifB s.deref (.err "a promoted method through a pointer") (underK cx s.struct fun d => dStruct d fun fs => onSome (lget fs.toList s.index) "no such field" fun f' => toRVK u fun x => onA x fun c => partK cx f'.type c f'.offset fun x => recvK cx f'.type x p (k f p)) = .ok rv rh := e3
      obtain ⟨hd, e5⟩ := ifB_e e4
      obtain ⟨d, hu, e6⟩ := underK_ok hcx e5
      obtain ⟨fs, rfl, e7⟩ := dStruct_ok e6
      obtain ⟨fd, hfd, e8⟩ := onSome_ok e7
      obtain ⟨x, e9, hx⟩ := toRVK_ok hv e8
      obtain ⟨c, rfl, e10⟩ := onA_ok e9
      obtain ⟨vs, rfl, hg, hc⟩ := hx.aggr
      obtain ⟨y, z, hy, e11, hz⟩ := partK_ok hcx hg hc e10
      obtain ⟨e12, hr⟩ := recvK_ok hcx e11
      rw [lget_eq] at hfd
      have hfd' : fs[s.index]? = some fd := by simpa using hfd
      refine ⟨f, p, y, z, e12, hy, fun n w => ⟨?_, fun hp => ?_⟩⟩
      · simp [method, typeInfo, hi, hm', follow, run_underlying hu, hfd', hd, hz, hr]
      · simp [nilAhead, typeInfo, hi, hm', followBlind, run_underlying hu, hfd', hd, hz, hp]

/-! ### calls -/
theorem toRVsK_ok {ρ : Rho} : ∀ {l : List Value} {m : List Value} {k : List RV → RT}, VRs ρ l m → toRVsK l k = .ok rv rh → ∃ xs, k xs = .ok rv rh ∧ RRs ρ xs m := by
  intro l
  induction l with
  | nil => intro m k h e; cases h; exact ⟨[], e, .nil⟩
  | cons v l ih =>
    intro m k h e
    cases h with
    | cons _ v' _ m' h1 h2 =>
    obtain ⟨x, e1, hx⟩ := toRVK_ok (k := fun x => toRVsK l fun m => k (x :: m)) h1 e
    obtain ⟨xs, e2, hxs⟩ := ih h2 e1
    exact ⟨x :: xs, e2, .cons _ _ _ _ hx hxs⟩
theorem rapp_eq (a b : List RV) : rapp a b = a ++ b := by induction a with
  | nil => rfl
  | cons x l ih => show x :: rapp l b = _; rw [ih]; rfl

theorem vMeth_ok {cx : Cx} (hcx : CxOk P cx) {call : CallT} (hc : CallOk P call) {ρ : Rho} {h : H} {w : World} {u v : Value} {name : String} {args : List RV} {vs : List Value} {k : KV} {kp : KP} (r : HR P ρ h w) (hv : VR ρ u v) (ha : RRs ρ args vs)
    (e : vMeth cx call u name args h k kp = .ok rv rh) : NextOk P rv rh ρ h w k kp ((callMethod v name vs.toArray).run P w) := by
  rcases vIface_ok (w := u) e with ⟨t, z, rfl, e1⟩ | ⟨_, e1⟩
  · cases hv with
    | ifc _ _ z' hz =>
    obtain ⟨f, p, x, y, e2, hx, hm⟩ := methK_ok hcx hz e1
    have h2 := hc r (.cons x y args vs hx ha) e2
    have h3 := (hm (P.types.size + 99) w).1
    have hrun : (callMethod (.iface t z') name vs.toArray).run P w = (callFunc f (y :: vs).toArray).run P w := by
      have hp : (program : Sem Program).run P w = .ok P w := rfl
      have h4 : (method (P.types.size + Made.depth) t z' name).run P w = .ok (f, y) w := h3
      simp only [callMethod, Sem.run_bind, hp, Result.andThen_ok, h4]
      simp
    rw [hrun]; exact h2
  · cases e1
theorem callMeth_ok {cx : Cx} (hcx : CxOk P cx) {call : CallT} (hc : CallOk P call) {ρ : Rho} {h : H} {w : World} {c : Ce} {v : Value} {name : String} {args : List RV} {vs : List Value} {k : KV} {kp : KP} (r : HR P ρ h w) (hv : CR ρ c v) (ha : RRs ρ args vs)
    (e : callMeth cx call c name args h k kp = .ok rv rh) : NextOk P rv rh ρ h w k kp ((callMethod v name vs.toArray).run P w) := by
  cases c with
  | v u =>
    have e1 : vMeth cx call u name args h k kp = .ok rv rh := e
    have hu : oneV u = u := by
      rcases vIface_ok (w := u) e1 with ⟨t, z, rfl, _⟩ | ⟨rfl, _⟩ <;> rfl
    have hv' : VR ρ (oneV u) v := hv
    rw [hu] at hv'
    exact vMeth_ok hcx hc r hv' ha e1
  | _ => cases e

theorem callV_ok {cx : Cx} (hcx : CxOk P cx) {call : CallT} (hc : CallOk P call) {ρ : Rho} {h : H} {w : World} {c : Ce} {v : Value} {args : List RV} {vs : List Value} {k : KV} {kp : KP} (r : HR P ρ h w) (hv : CR ρ c v) (ha : RRs ρ args vs)
    (e : callV cx call c args h k kp = .ok rv rh) : NextOk P rv rh ρ h w k kp ((do let d ← Deferred.ofValue v vs.toArray; invoke d.target d.args : Sem Next).run P w) := by
  obtain ⟨fn, first, cap, rfl, e1⟩ := onFn_ok e
  have hv' : VR ρ (.func fn first cap) v := hv
  cases hv' with
  | fn _ _ _ first' cap' h1 h2 =>
  cases fn with
  | func g =>
    obtain ⟨xs, e2, hxs⟩ := toRVsK_ok (k := fun xs => toRVsK cap.toList fun ys => call g (rapp xs (rapp args ys)) h k kp) h1 e1
    obtain ⟨ys, e3, hys⟩ := toRVsK_ok h2 e2
    rw [rapp_eq, rapp_eq] at e3
    have := hc r (hxs.append (ha.append hys)) e3
    have hargs : (first'.toList ++ (vs ++ cap'.toList)).toArray = first' ++ vs.toArray ++ cap' := by
      apply Array.ext'; simp
    rw [hargs] at this
    simpa [Deferred.ofValue, invoke] using this
  | method name =>
    rcases first with ⟨first⟩
    cases first with
    | nil => cases e1
    | cons x l =>
      cases l with
      | cons y l => cases e1
      | nil =>
        rcases first' with ⟨first'⟩
        cases h1 with
        | cons _ x' _ l' hx hl =>
        cases hl
        have e2 : vMeth cx call x name args h k kp = .ok rv rh := e1
        have := vMeth_ok hcx hc r hx ha e2
        have hex : (#[x'] ++ vs.toArray).extract 1 (#[x'] ++ vs.toArray).size = vs.toArray := by
          apply Array.ext'; simp
        simp only [Deferred.ofValue, Sem.run_bind, Sem.run_pure, Result.andThen_ok, invoke]
        rw [hex]
        simpa using this
  | _ => cases e1
end Go.Ev
end
section
/- Ev, soundness, part 27: small operations. Conditions: none. -/
namespace Go.Ev
set_option linter.unusedVariables false
variable {P : Program} {rv : RV} {rh : H}

/-- A value is passed on. -/
theorem NextOk.of_value {ρ : Rho} {h : H} {w : World} {k : KV} {kp : KP} {x : RV} {v : Value} (r : HR P ρ h w) (hx : RR ρ x v) (e : k x h = .ok rv rh) : NextOk P rv rh ρ h w k kp (.ok (.value v) w) :=
  ⟨x, h, ρ, e, r, St.refl _ _ _, hx⟩

theorem pick_ok {ρ : Rho} {h : H} {w : World} {k : KV} {kp : KP} {ev : Operand → Value} {o : Oper} {c x y : Operand} {xc xx xy : RV} (r : HR P ρ h w) (ho : o.op = .pick c x y) (hc : RR ρ xc (ev c)) (hx : RR ρ xx (ev x)) (hy : RR ρ xy (ev y))
    (e : (onS xc fun c => onBool c fun t => ifB t (k xx h) (k xy h)) = .ok rv rh) : NextOk P rv rh ρ h w k kp ((execOp ev o).run P w) := by
  obtain ⟨c', rfl, e1⟩ := onS_ok e
  obtain ⟨b, rfl, e2⟩ := onBool_ok e1
  have hb := hc.scalar.bool
  have hrun : (execOp ev o).run P w = .ok (.value (if b then ev x else ev y)) w := by
    unfold execOp
    rw [ho]
    simp [hb, asBool]
  rw [hrun]
  cases b with
  | true => exact .of_value r hx e2
  | false => exact .of_value r hy e2

theorem nil_ok {cx : Cx} (hcx : CxOk P cx) {ρ : Rho} {h : H} {w : World} {k : KV} {kp : KP} {ev : Operand → Value} {o : Oper} {y : Operand} {x : RV} (r : HR P ρ h w) (ho : o.op = .nilCheck y) (hx : RR ρ x (ev y))
    (e : (pNil cx x fun v => k v h) = .ok rv rh) : NextOk P rv rh ρ h w k kp ((execOp ev o).run P w) := by
  obtain ⟨c, rfl, e1⟩ := onS_ok e
  have hc : VR ρ c.toV (ev y) := hx.scalar
  have fin : k (.s c) h = .ok rv rh → (execOp ev o).run P w = .ok (.value (ev y)) w → NextOk P rv rh ρ h w k kp ((execOp ev o).run P w) := fun e2 e3 => by rw [e3]; exact .of_value r hx e2
  have hex : execOp ev o = (match ev y with
    | .pointer none | .nilIface | .nilFunc => runtimePanic .nilDeref
    | .func (.method name) first captured =>
      match (first[0]? : Option Value) with
      | some .nilIface => runtimePanic .nilDeref
      | some (.iface t w) => do
        if (← nilAhead ((← program).types.size + Made.depth) t w name) != some false then
          unsupported (.noEntry "op/nilCheck.the method's receiver behind this interface value is a nil pointer, or cannot be seen to be none, and the arguments act or may panic (ledger 612)")
        pure (.value (.func (.method name) first captured))
      | _ => pure (.value (.func (.method name) first captured))
    | x => pure (.value x) : Sem Next) := by unfold execOp; rw [ho]; rfl
  generalize hv : ev y = v at hc hex fin
  rw [hv] at hx
  cases c with
  | i j n => cases hc; exact fin e1 (by rw [hex]; rfl)
  | b t => cases hc; exact fin e1 (by rw [hex]; rfl)
  | p a o' => cases hc; exact fin e1 (by rw [hex]; rfl)
  | sl a o' n m => cases hc; exact fin e1 (by rw [hex]; rfl)
  | st l => cases hc; exact fin e1 (by rw [hex]; rfl)
  | v u =>
    cases u with
    | pointer a => cases a <;> cases e1
    | nilFunc => cases e1
    | nilIface => cases e1
    | func fn first cap =>
      cases hc with
      | fn _ _ _ first' cap' h1 h2 =>
      cases fn with
      | func g => exact fin e1 (by rw [hex]; rfl)
      | method name =>
        rcases first with ⟨first⟩
        cases first with
        | nil => cases e1
        | cons z l =>
          rcases first' with ⟨first'⟩
          cases h1 with
          | cons _ z' _ l' hz hl =>
          have e2 : vIface z (fun t v => methK cx t v name fun _ p _ => ifB p (k (.s (.v (.func (.method name) ⟨z :: l⟩ cap))) h) (.err "nilCheck of a value method")) (.err "nil dereference") = .ok rv rh := e1
          rcases vIface_ok e2 with ⟨t, q, rfl, e3⟩ | ⟨_, e3⟩
          · cases hz with
            | ifc _ _ q' hq =>
            obtain ⟨f, p, x, y', e4, _, hm⟩ := methK_ok hcx hq e3
            obtain ⟨hp, e5⟩ := ifB_t e4
            refine fin e5 ?_
            rw [hex]
            have hpr : (program : Sem Program).run P w = .ok P w := rfl
            have h3 : (nilAhead (P.types.size + Made.depth) t q' name).run P w = .ok (some false) w := (hm (P.types.size + 99) w).2 hp
            simp [hpr, h3]
          · cases e3
      | _ => cases e1
    | bool b => cases hc; exact fin e1 (by rw [hex]; rfl)
    | int j n => cases hc; exact fin e1 (by rw [hex]; rfl)
    | string s => cases hc; exact fin e1 (by rw [hex]; rfl)
    | slice a n m => cases hc <;> exact fin e1 (by rw [hex]; rfl)
    | map a => cases hc <;> exact fin e1 (by rw [hex]; rfl)
    | chan a => cases hc <;> exact fin e1 (by rw [hex]; rfl)
    | iface t q => cases hc; exact fin e1 (by rw [hex]; rfl)
    | _ => cases hc

theorem s2a_ok {cx : Cx} (hcx : CxOk P cx) {ρ : Rho} {h : H} {w : World} {t : Nat} {x : RV} {v : Value} {k : KV} (r : HR P ρ h w) (hx : RR ρ x v) (e : (pS2A cx t x fun y => k y h) = .ok rv rh) : Made P rv rh ρ h w k (Instr.arrayAt t v) := by
  obtain ⟨c, rfl, e1⟩ := onS_ok e
  obtain ⟨d, hu, e2⟩ := underK_ok hcx e1
  rcases dArr_ok e2 with ⟨n, el, rfl, e3⟩ | ⟨_, e3⟩
  · rcases onSl_ok e3 with ⟨a, b, rfl, e4⟩ | ⟨a, o, m, cap, rfl, e4⟩
    · cases e4
    · obtain ⟨hn, e5⟩ := ifB_t e4
      rw [Nat.ble_eq] at hn
      obtain ⟨b, base, ex, hρ, rfl⟩ := hx.scalar.sl
      exact .of_pure r ⟨_, _, e5, .s _ _ (VR.p a o b base ex hρ), fun w => run_arrayAt w t el n _ m _ hu hn⟩
  · cases e3

theorem ofRVs_ok {ρ : Rho} {xs : List RV} {vs : List Value} (h : RRs ρ xs vs) : ∀ {k : List Value → RT}, ofRVs xs k = .ok rv rh → ∃ us, k us = .ok rv rh ∧ VRs ρ us vs := by
  induction h with
  | nil => intro k e; exact ⟨[], e, .nil⟩
  | cons x v l m hx _ ih =>
    intro k e
    obtain ⟨u, e1, hu⟩ := ofRV_ok (k := fun v => ofRVs l fun vs => k (v :: vs)) hx e
    obtain ⟨us, e2, hus⟩ := ih e1
    exact ⟨u :: us, e2, .cons _ _ _ _ hu hus⟩
theorem mkF_ok {ρ : Rho} {h : H} {w : World} {fn : Fn} {xs ys : List RV} {vs us : List Value} {k : KV} (r : HR P ρ h w) (hx : RRs ρ xs vs) (hy : RRs ρ ys us) (e : (pMkF fn xs ys fun y => k y h) = .ok rv rh) :
    Made P rv rh ρ h w k (Instr.makeFunc fn vs.toArray us.toArray) := by
  obtain ⟨a, e1, ha⟩ := ofRVs_ok hx e
  obtain ⟨b, e2, hb⟩ := ofRVs_ok hy e1
  exact .of_pure r ⟨_, _, e2, .s _ _ (VR.fn fn ⟨a⟩ ⟨b⟩ _ _ ha hb), fun w => rfl⟩

theorem panic_ok {ρ : Rho} {h : H} {w : World} {k : KV} {kp : KP} {ev : Operand → Value} {o : Oper} {y : Operand} {x : RV} (r : HR P ρ h w) (ho : o.op = .panic y) (hx : RR ρ x (ev y))
    (e : (onS x fun w => onIface w (fun _ _ => kp w h) (.err "panic of nil")) = .ok rv rh) : NextOk P rv rh ρ h w k kp ((execOp ev o).run P w) := by
  obtain ⟨c, rfl, e1⟩ := onS_ok e
  rcases onIface_ok e1 with ⟨t, u, rfl, e2⟩ | ⟨_, e2⟩
  · have hc : VR ρ (.iface t u) (ev y) := hx.scalar
    have hx' := hx.scalar
    generalize hv : ev y = v at hc hx'
    cases hc with
    | ifc _ _ u' hu =>
    have hrun : (execOp ev o).run P w = .halt (.panic (.iface t u')) w := by
      unfold execOp
      rw [ho]
      simp [hv, Instr.panic, goPanic]
    rw [hrun]
    exact ⟨_, h, ρ, e2, r, St.refl _ _ _, hx'⟩
  · cases e2
end Go.Ev
end
section
/- Ev, soundness, part 28: builtins: len, cap, min, max, unsafe.SliceData. Conditions: none. -/
namespace Go.Ev
set_option linter.unusedVariables false
variable {P : Program} {rv : RV} {rh : H}

theorem ty0_ok {ts : Array TypeId} {k : Nat → RT} (e : ty0 ts k = .ok rv rh) : ∃ t, ts[0]? = some t ∧ k t = .ok rv rh := by
  rcases ts with ⟨l⟩
  cases l with
  | nil => cases e
  | cons t l => exact ⟨t, rfl, e⟩
theorem arg1_ok {ρ : Rho} {args : List RV} {vs : List Value} {k : Ce → RT} (h : RRs ρ args vs) (e : arg1 args k = .ok rv rh) : ∃ c v, vs[0]? = some v ∧ CR ρ c v ∧ k c = .ok rv rh := by
  cases h with
  | nil => cases e
  | cons x v l m hx hl => obtain ⟨c, rfl, e1⟩ := onS_ok (x := x) (k := k) e; exact ⟨c, v, rfl, hx.scalar, e1⟩
theorem arg2_ok {ρ : Rho} {args : List RV} {vs : List Value} {k : Ce → Ce → RT} (h : RRs ρ args vs) (e : arg2 args k = .ok rv rh) : ∃ c d v u, vs[0]? = some v ∧ vs[1]? = some u ∧ CR ρ c v ∧ CR ρ d u ∧ k c d = .ok rv rh := by
  cases h with
  | nil => cases e
  | cons x v l m hx hl =>
    obtain ⟨c, rfl, e1⟩ := onS_ok (x := x) (k := fun v => arg1 l fun w => k v w) e
    obtain ⟨d, u, h1, h2, e2⟩ := arg1_ok hl e1
    exact ⟨c, d, v, u, rfl, by simpa using h1, hx.scalar, h2, e2⟩
theorem arg3_ok {ρ : Rho} {args : List RV} {vs : List Value} {k : Ce → Ce → Ce → RT} (h : RRs ρ args vs) (e : arg3 args k = .ok rv rh) :
    ∃ c d f v u t, vs[0]? = some v ∧ vs[1]? = some u ∧ vs[2]? = some t ∧ CR ρ c v ∧ CR ρ d u ∧ CR ρ f t ∧ k c d f = .ok rv rh := by
  cases h with
  | nil => cases e
  | cons x v l m hx hl =>
    obtain ⟨c, rfl, e1⟩ := onS_ok (x := x) (k := fun v => arg2 l fun w y => k v w y) e
    obtain ⟨d, f, u, t, h1, h2, h3, h4, e2⟩ := arg2_ok hl e1
    exact ⟨c, d, f, v, u, t, rfl, by simpa using h1, by simpa using h2, hx.scalar, h3, h4, e2⟩
theorem args1_ok {ρ : Rho} {args : List RV} {vs : List Value} {k : Ce → RT} (h : RRs ρ args vs) (e : args1 args k = .ok rv rh) : ∃ c v, vs = [v] ∧ CR ρ c v ∧ k c = .ok rv rh := by
  cases h with
  | nil => cases e
  | cons x v l m hx hl =>
    cases hl with
    | nil => obtain ⟨c, rfl, e1⟩ := onS_ok (x := x) (k := k) e; exact ⟨c, v, rfl, hx.scalar, e1⟩
    | cons => cases e
theorem args2_ok {ρ : Rho} {args : List RV} {vs : List Value} {k : Ce → Ce → RT} (h : RRs ρ args vs) (e : args2 args k = .ok rv rh) : ∃ c d v u, vs = [v, u] ∧ CR ρ c v ∧ CR ρ d u ∧ k c d = .ok rv rh := by
  cases h with
  | nil => cases e
  | cons x v l m hx hl =>
    obtain ⟨c, rfl, e1⟩ := onS_ok (x := x) (k := fun v => args1 l fun w => k v w) e
    obtain ⟨d, u, rfl, h2, e2⟩ := args1_ok hl e1
    exact ⟨c, d, v, u, rfl, hx.scalar, h2, e2⟩

/-- A value's length. -/
inductive LenR (w : World) : Value → Nat → Prop
  | sl (a : Option Addr) (n c : Nat) : LenR w (.slice a n c) n
  | str (s : ByteArray) : LenR w (.string s) s.size
  | nm : LenR w (.map none) 0
  | m (b : Nat) (es : Array MapEntry) (clk : Nat) (h : w.heap[b]? = some (.map es clk)) : LenR w (.map (some b)) es.size

theorem mlen_eq {ρ : Rho} {l : ML} {es : List MapEntry} (h : MR ρ l es) : mlen l = es.length := by
  induction h with
  | nil => rfl
  | cons k v t e es hk hv ht ih => show Nat.succ (mlen t) = _; rw [ih]; rfl

theorem lenE_ok {ρ : Rho} {h : H} {w : World} {c : Ce} {v : Value} {k : Nat → RT} (r : HR P ρ h w) (hv : CR ρ c v) (e : lenE c h k = .ok rv rh) : ∃ n, k n = .ok rv rh ∧ LenR w v n := by
  cases c with
  | sl a o n m => obtain ⟨b, base, ex, hρ, rfl⟩ := hv.sl; exact ⟨n, e, .sl _ _ _⟩
  | st l =>
    have e1 : natK (llen l) k = .ok rv rh := e
    rw [natK_eq, llen_eq] at e1
    have := hv.str; subst this
    exact ⟨_, e1, .str ⟨⟨l⟩⟩⟩
  | v u =>
    cases u with
    | slice a n m =>
      cases a with
      | none => cases hv; exact ⟨n, e, .sl _ _ _⟩
      | some a => cases e
    | map a =>
      cases a with
      | none => cases hv; exact ⟨0, e, .nm⟩
      | some a =>
        obtain ⟨o, ho, e1⟩ := getK_ok (h := h) (k := fun o => oMap o fun l _ => natK (mlen l) k) e
        obtain ⟨l, rg, rfl, e2⟩ := oMap_ok e1
        rw [natK_eq] at e2
        cases hv with
        | m _ b base ex hρ =>
        obtain ⟨b', base', ex', q1, hor⟩ := r.obj _ _ ho
        rw [hρ] at q1; cases q1
        obtain ⟨es, clk, es', h1, h2, h3, h4, h5, h6⟩ := hor
        rw [mlen_eq h3, h2.length_eq] at e2
        exact ⟨es.size, by simpa using e2, .m b es clk h1⟩
    | _ => cases e
  | _ => cases e

theorem bLen_read {cx : Cx} (hcx : CxOk P cx) {ρ : Rho} {h : H} {w : World} {ts : Array TypeId} {ty : TypeId} {args : List RV} {vs : List Value} {k : KV} (r : HR P ρ h w) (ha : RRs ρ args vs) (e : bLen cx ts args h k = .ok rv rh) :
    Read P rv rh ρ h w k (Builtin.len_ ts ty vs.toArray) := by
  obtain ⟨t, ht, e1⟩ := ty0_ok e
  obtain ⟨d, hu, e2⟩ := underK_ok hcx e1
  obtain ⟨c, v, hv, hc, e3⟩ := arg1_ok ha e2
  have hv' : vs.toArray[0]? = some v := by simpa using hv
  have key : ∀ n, LenR w v n → ((∃ el, d = .slice el) ∧ (∃ a n c, v = .slice a n c) ∨ (d = .string ∧ ∃ s, v = .string s) ∨ ((∃ a b, d = .map a b) ∧ ∃ a, v = .map a)) → (Builtin.len_ ts ty vs.toArray).run P w = .ok (.int .i64 (n : Int)) w := by
    intro n hn hd
    unfold Builtin.len_
    rw [ht, hv']
    cases hn with
    | sl a n m =>
      rcases hd with ⟨⟨el, rfl⟩, _⟩ | ⟨_, s, h⟩ | ⟨_, a, h⟩
      · simp [run_underlying hu, goInt]
      · cases h
      · cases h
    | str s =>
      rcases hd with ⟨_, a, n, c, h⟩ | ⟨rfl, _⟩ | ⟨_, a, h⟩
      · cases h
      · simp [run_underlying hu, goInt]
      · cases h
    | nm =>
      rcases hd with ⟨_, a, n, c, h⟩ | ⟨_, s, h⟩ | ⟨⟨a, b, rfl⟩, _⟩
      · cases h
      · cases h
      · simp [run_underlying hu, goInt]
    | m b es clk hb =>
      rcases hd with ⟨_, a, n, c, h⟩ | ⟨_, s, h⟩ | ⟨⟨a, b, rfl⟩, _⟩
      · cases h
      · cases h
      · simp [run_underlying hu, goInt, getObj, Sem.run, hb]
  have fin : ∀ {e' : RT}, lenE c h (fun n => k (.s (.i .i64 (.ofNat n))) h) = .ok rv rh → ((∃ el, d = .slice el) ∧ (∃ a n c, v = .slice a n c) ∨ (d = .string ∧ ∃ s, v = .string s) ∨ ((∃ a b, d = .map a b) ∧ ∃ a, v = .map a)) → Read P rv rh ρ h w k (Builtin.len_ ts ty vs.toArray) := fun {_} e4 hd => by
    obtain ⟨n, e5, hn⟩ := lenE_ok r hc e4
    exact ⟨_, _, e5, .s _ _ (VR.int _ _), key n hn hd⟩
  cases c with
  | sl a o n m =>
    obtain ⟨el, rfl, e4⟩ := dSlice_ok (d := d) e3
    obtain ⟨b, base, ex, hρ, rfl⟩ := hc.sl
    exact fin (e' := eLen) e4 (.inl ⟨⟨_, rfl⟩, _, _, _, rfl⟩)
  | st l =>
    rcases dStr_ok (d := d) e3 with ⟨rfl, e4⟩ | ⟨_, e4⟩
    · exact fin (e' := eLen) e4 (.inr (.inl ⟨rfl, _, hc.str⟩))
    · cases e4
  | v u =>
    cases u with
    | slice a n m =>
      obtain ⟨el, rfl, e4⟩ := dSlice_ok (d := d) e3
      refine fin (e' := eLen) e4 (.inl ⟨⟨_, rfl⟩, ?_⟩)
      cases hc <;> exact ⟨_, _, _, rfl⟩
    | map a =>
      obtain ⟨x, y, rfl, e4⟩ := dMap_ok (d := d) e3
      refine fin (e' := eLen) e4 (.inr (.inr ⟨⟨_, _, rfl⟩, ?_⟩))
      cases hc <;> exact ⟨_, rfl⟩
    | _ => cases e3
  | _ => cases e3

theorem bLen_ok {cx : Cx} (hcx : CxOk P cx) {ρ : Rho} {h : H} {w : World} {ts : Array TypeId} {ty : TypeId} {args : List RV} {vs : List Value} {k : KV} (r : HR P ρ h w) (ha : RRs ρ args vs) (e : bLen cx ts args h k = .ok rv rh) :
    Made P rv rh ρ h w k (Builtin.len_ ts ty vs.toArray) := .of_read r (bLen_read hcx r ha e)

theorem bCap_ok {cx : Cx} (hcx : CxOk P cx) {ρ : Rho} {h : H} {w : World} {ts : Array TypeId} {ty : TypeId} {args : List RV} {vs : List Value} {k : KV} (r : HR P ρ h w) (ha : RRs ρ args vs) (e : bCap cx ts args h k = .ok rv rh) :
    Made P rv rh ρ h w k (Builtin.cap_ ts ty vs.toArray) := by
  obtain ⟨t, ht, e1⟩ := ty0_ok e
  obtain ⟨d, hu, e2⟩ := underK_ok hcx e1
  obtain ⟨el, rfl, e3⟩ := dSlice_ok e2
  obtain ⟨c, v, hv, hc, e4⟩ := arg1_ok ha e3
  have hv' : vs.toArray[0]? = some v := by simpa using hv
  rcases onSl_ok e4 with ⟨n, m, rfl, e5⟩ | ⟨a, o, n, m, rfl, e5⟩
  · have hc' : v = .slice none n m := by cases hc; rfl
    refine .of_read r ⟨_, _, e5, .s _ _ (VR.int _ _), ?_⟩
    unfold Builtin.cap_
    rw [ht, hv', hc']
    simp [run_underlying hu, goInt]
  · obtain ⟨ob, ho, e6⟩ := getK_ok e5
    obtain ⟨cs, te, exact_, fz, rfl, e7⟩ := oCells_ok e6
    obtain ⟨hx, e8⟩ := ifB_t e7
    obtain ⟨b, base, ex, hρ, rfl⟩ := hc.sl
    obtain ⟨b', base', ex', q1, hor⟩ := r.obj _ _ ho
    rw [hρ] at q1; cases q1
    obtain ⟨hg, arr, lo', hi', hb, hcc, hex, hsz, hz⟩ := hor
    have h0 := (hex hx).1
    subst h0
    refine .of_read r ⟨_, _, e8, .s _ _ (VR.int _ _), ?_⟩
    unfold Builtin.cap_
    rw [ht, hv']
    simp [run_underlying hu, goInt]

theorem mmE_ok {ρ : Rho} {f : Int → Int → Bool} {g : Value → Value → Sem Value} (hg : ∀ j p q w, (g (.int j p) (.int j q)).run P w = .ok (.int j (if f p q then q else p)) w) {args : List RV} {vs : List Value} {k : Ce → RT} (ha : RRs ρ args vs) (e : mmE f args k = .ok rv rh) :
    ∃ x l, vs = x :: l ∧ ∃ c v, k c = .ok rv rh ∧ CR ρ c v ∧ ∀ w, (l.foldlM g x).run P w = .ok v w := by
  cases ha with
  | nil => cases e
  | cons x v l m hx hl =>
    obtain ⟨c, rfl, e1⟩ := onS_ok (x := x) (k := fun v => (List.rec (motive := fun _ => Ce → RT) (fun a => k a) (fun y _ ih a => onS y fun w => onInt a fun j p => onInt w fun i q => ifB (kindEq j i) (ih (ifB (f p q) (.i j q) (.i j p))) eMm) l : Ce → RT) v) e
    refine ⟨v, m, rfl, ?_⟩
    have hc := hx.scalar
    clear hx e
    induction hl generalizing c v with
    | nil => exact ⟨c, v, e1, hc, fun w => rfl⟩
    | cons y u l m hy _ ih =>
      obtain ⟨d, rfl, e2⟩ := onS_ok (x := y) e1
      obtain ⟨j, p, rfl, e3⟩ := onInt_ok e2
      obtain ⟨i, q, rfl, e4⟩ := onInt_ok e3
      rcases ifB_ok e4 with ⟨hk, e5⟩ | ⟨_, e5⟩
      · have := kindEq_spec hk; subst this
        have h1 := hc.int; subst h1
        have h2 := hy.scalar.int; subst h2
        have hif : (ifB (f p q) (Ce.i j q) (Ce.i j p)) = .i j (if f p q then q else p) := by cases f p q <;> rfl
        rw [hif] at e5
        obtain ⟨c', v', e6, hc', hrun⟩ := ih (.int j (if f p q then q else p)) (.i j (if f p q then q else p)) e5 (VR.int _ _)
        refine ⟨c', v', e6, hc', fun w => ?_⟩
        simp only [List.foldlM_cons, Sem.run_bind, hg, Result.andThen_ok]
        exact hrun w
      · cases e5

theorem bMax_ok {ρ : Rho} {h : H} {w : World} {ts : Array TypeId} {ty : TypeId} {args : List RV} {vs : List Value} {k : KV} (r : HR P ρ h w) (ha : RRs ρ args vs) (e : bMax args h k = .ok rv rh) : Made P rv rh ρ h w k (Builtin.max_ ts ty vs.toArray) := by
  obtain ⟨x, l, rfl, c, v, e1, hc, hrun⟩ := mmE_ok (P := P) (g := Builtin.max2) (fun j p q w => by simp [Builtin.max2, ltF_eq]) ha e
  exact .of_pure r ⟨_, _, e1, .s _ _ hc, hrun⟩
theorem bMin_ok {ρ : Rho} {h : H} {w : World} {ts : Array TypeId} {ty : TypeId} {args : List RV} {vs : List Value} {k : KV} (r : HR P ρ h w) (ha : RRs ρ args vs) (e : bMin args h k = .ok rv rh) : Made P rv rh ρ h w k (Builtin.min_ ts ty vs.toArray) := by
  obtain ⟨x, l, rfl, c, v, e1, hc, hrun⟩ := mmE_ok (P := P) (g := Builtin.min2) (fun j p q w => by simp [Builtin.min2, ltF_eq]) ha e
  exact .of_pure r ⟨_, _, e1, .s _ _ hc, hrun⟩

theorem bUSlice_ok {ρ : Rho} {h : H} {w : World} {ts : Array TypeId} {ty : TypeId} {args : List RV} {vs : List Value} {k : KV} (r : HR P ρ h w) (ha : RRs ρ args vs) (e : bUSlice args h k = .ok rv rh) : Made P rv rh ρ h w k (Builtin.unsafeSliceData_ ts ty vs.toArray) := by
  obtain ⟨c, v, rfl, hc, e1⟩ := args1_ok ha e
  rcases onSl_ok e1 with ⟨n, m, rfl, e2⟩ | ⟨a, o, n, m, rfl, e2⟩
  · have hc' : v = .slice none n m := by cases hc; rfl
    subst hc'
    exact .of_pure r ⟨_, _, e2, .s _ _ VR.np, fun w => Lib.run_unsafeSliceData_nil (w := w) ts ty n m⟩
  · obtain ⟨h0, e3⟩ := ifB_e e2
    obtain ⟨b, base, ex, hρ, rfl⟩ := hc.sl
    have hne : m + ex ≠ 0 := fun h => by have : m = 0 := by omega
                                         subst this; cases h0
    refine .of_pure r ⟨_, _, e3, .s _ _ (VR.p a o b base ex hρ), fun w => ?_⟩
    exact Lib.run_unsafeSliceData_row (w := w) ts ty _ n _ hne
end Go.Ev
end
section
/- Ev, soundness, part 29: append. Conditions: none. -/
namespace Go.Ev
set_option linter.unusedVariables false
variable {P : Program} {rv : RV} {rh : H}

/-- append's second type is no whole number's. -/
def NoInt (P : Program) (ts : Array TypeId) : Prop := ts[1]? = none ∨ ∃ xt d, ts[1]? = some xt ∧ P.underlying xt = some d ∧ ∀ j, d ≠ .int j
theorem noInt_ok {cx : Cx} (hcx : CxOk P cx) {ts : Array TypeId} {k : RT} (e : noInt cx ts k = .ok rv rh) : NoInt P ts ∧ k = .ok rv rh := by
  rcases ts with ⟨l⟩
  cases l with
  | nil => exact ⟨.inl rfl, e⟩
  | cons t l =>
    cases l with
    | nil => exact ⟨.inl rfl, e⟩
    | cons xt l =>
      obtain ⟨d, hu, e1⟩ := underK_ok hcx (t := xt) (k := fun d => dInt d (fun _ => .err "append of a make") k) e
      rcases dInt_ok e1 with ⟨j, _, e2⟩ | ⟨hd, e2⟩
      · cases e2
      · exact ⟨.inr ⟨xt, d, rfl, hu, hd⟩, e2⟩
theorem append_zeros {ts : Array TypeId} {t ty e : TypeId} {args : Array Value} {s x : Value} (ht : ts[0]? = some t) (hts : NoInt P ts) (hu : P.underlying t = some (.slice e)) {i : TypeInfo} (hi : P.info? e = some i) (h0 : args[0]? = some s) (h1 : args[1]? = some x) (w : World) :
    (Builtin.append_ ts ty args).run P w = (Builtin.append_ #[t] ty args).run P w := by
  rcases hts with h | ⟨xt, d, h, hux, hd⟩
  · unfold Builtin.append_
    rw [ht, h, h0, h1]; rfl
  · unfold Builtin.append_
    rw [ht, h, h0, h1]
    simp only [Sem.run_bind, run_underlying hu w, Result.andThen_ok, List.getElem?_toArray, List.getElem?_cons_zero]
    cases s with
    | slice base sLen sCap =>
      simp only [Sem.run_bind, run_sizeOf hi, run_underlying hux, Result.andThen_ok, Sem.run_pure]
      cases d <;> first | exact absurd rfl (hd _) | rfl
    | _ => rfl

theorem append_in {ts : Array TypeId} {t ty e : TypeId} {vs : List Value} {i : TypeInfo} {u : Value} {a : Addr} {sLen sCap n : Nat} {news : List Value} {w w' : World} (ht : ts[0]? = some t) (hts : NoInt P ts) (hu : P.underlying t = some (.slice e)) (hi : P.info? e = some i)
    (hv0 : vs[0]? = some (.slice (some a) sLen sCap)) (hv1 : vs[1]? = some u) (hn : ∀ w, (Builtin.lenOf u).run P w = .ok n w) (hc : (Builtin.firstCells i.size n u).run P w = .ok news.toArray w) (hroom : sLen + n ≤ sCap)
    (hst : (storeCells (a.add (sLen * i.size)) news).run P w = .ok () w') : (Builtin.append_ ts ty vs.toArray).run P w = .ok (.slice (some a) (sLen + n) sCap) w' := by
  have h0 : vs.toArray[0]? = some (.slice (some a) sLen sCap) := by simpa using hv0
  have h1 : vs.toArray[1]? = some u := by simpa using hv1
  rw [append_zeros ht hts hu hi h0 h1]
  unfold Builtin.append_
  rw [h0, h1]
  simp [run_underlying hu, run_sizeOf hi, hn, hroom, hc, hst]

theorem append_out {ts : Array TypeId} {t ty e : TypeId} {vs : List Value} {i : TypeInfo} {z u : Value} {base : Option Addr} {sLen sCap n : Nat} {olds news : List Value} {w : World} (ht : ts[0]? = some t) (hts : NoInt P ts) (hu : P.underlying t = some (.slice e)) (hi : P.info? e = some i) (hz : i.zero = some z)
    (hv0 : vs[0]? = some (.slice base sLen sCap)) (hv1 : vs[1]? = some u) (hn : ∀ w, (Builtin.lenOf u).run P w = .ok n w) (ho : (Builtin.firstCells i.size sLen (.slice base sLen sCap)).run P w.drew = .ok olds.toArray w.drew) (hc : (Builtin.firstCells i.size n u).run P w.drew = .ok news.toArray w.drew) (hroom : sCap < sLen + n)
    (h63 : ((sLen + n : Nat) : Int) ≤ 9223372036854775807) (hfit : Builtin.nextslicecap (sLen + n) sCap * i.bytes ≤ 281474976710656) : (Builtin.append_ ts ty vs.toArray).run P w =
      .ok (.slice (some ⟨w.heap.size, 0, none⟩) (sLen + n) (grownCap w (sLen + n) sCap e)) (w.drew.alloc (.cells (olds.toArray ++ (news.toArray ++ Builtin.zeroCells z.cells (grownCap w (sLen + n) sCap e - (sLen + n)))) e)) := by
  have h0 : vs.toArray[0]? = some (.slice base sLen sCap) := by simpa using hv0
  have h1 : vs.toArray[1]? = some u := by simpa using hv1
  have hr : ¬ (sLen + n ≤ sCap) := by omega
  have h63' : ¬ (9223372036854775807 < ((sLen : Int) + (n : Int))) := by omega
  have h48' : ¬ (281474976710656 < Builtin.nextslicecap (sLen + n) sCap * i.bytes) := by omega
  rw [append_zeros ht hts hu hi h0 h1]
  unfold Builtin.append_
  rw [h0, h1]
  simp [run_underlying hu, hn, hr, sizeOf, typeInfo, zeroValue, hi, hz, h63', h48', Question.forced, hc, ho, newRow, grownCap]
end Go.Ev
end
section
/- Ev, soundness, part 30: append. Conditions: none. -/
namespace Go.Ev
set_option linter.unusedVariables false
variable {P : Program} {rv : RV} {rh : H}

theorem Src.len {ρ : Rho} {w : World} {n size : Nat} {u : Value} {xs : List Value} (h : Src P ρ w n size u xs) (hl : LenR w u n) (w' : World) : (Builtin.lenOf u).run P w' = .ok n w' := by
  cases h with
  | row b o m c vs hn hl' hc => cases hl; rfl
  | str l => cases hl; rfl
  | nil m c => cases hl; rfl
theorem Src.first {ρ : Rho} {w : World} {n size : Nat} {u : Value} {xs : List Value} (h : Src P ρ w n size u xs) {w' : World} (hw : w'.heap = w.heap) : (Builtin.firstCells size n u).run P w' = .ok xs.toArray w' := by
  cases h with
  | row b o m c vs hn hl' hc =>
    refine run_firstCells_some w' size n _ m c xs hl' fun j v hj => ?_
    rw [Addr.add_plain]
    have := hc j v hj
    simpa [World.cell?, hw] using this
  | str l =>
    simp [Builtin.firstCells]
  | nil m c => simp [Builtin.firstCells]
theorem Src.zero {ρ : Rho} {w : World} {size : Nat} {u : Value} {xs : List Value} (h : Src P ρ w 0 size u xs) : xs = [] := by
  cases h with
  | row b o m c vs hn hl' hc => exact List.eq_nil_of_length_eq_zero (by simpa using hl')
  | str l => rfl
  | nil m c => rfl

theorem room_ok {n bytes : Nat} {k : RT} (e : room n bytes k = .ok rv rh) : k = .ok rv rh ∧ (2 * n + 1024) * bytes ≤ 281474976710656 ∧ n ≤ 281474976710656 := by
  obtain ⟨h, e1⟩ := ifB_t e
  rw [andB_eq, Bool.and_eq_true, Nat.ble_eq, Nat.ble_eq] at h
  exact ⟨e1, h.1, h.2⟩
theorem room_fits {n old bytes : Nat} (h : old < n) (hb : (2 * n + 1024) * bytes ≤ 281474976710656) : Builtin.nextslicecap n old * bytes ≤ 281474976710656 := by
  have h1 := nextslicecap_le h
  have h2 : Builtin.nextslicecap n old * bytes ≤ (2 * n + 1024) * bytes := Nat.mul_le_mul_right _ (by omega)
  omega

/-- A block of cells is made, of which some may lie beyond the known ones. -/
theorem newCells_fz {ρ : Rho} {h : H} {w : World} {c : Cs} {arr : Array Value} {e : TypeId} {fz ex : Nat} (r : HR P ρ h w) (hg : c.good) (hv : ∀ (i : Nat) (v : Ce), c.l[i]? = some v → ∃ v', arr[i]? = some v' ∧ CR ρ v v')
    (hsz : c.l.length + ex * P.cellsOf e ≤ arr.size) :
    ∃ h' ρ', (∀ k, h.newK (.cells c e false fz) k = k h.next h') ∧ ρ' h.next = some (w.heap.size, 0, ex) ∧ HR P ρ' h' (pushed w (.cells arr e)) ∧ St ρ h w ρ' h' (pushed w (.cells arr e)) := by
  obtain ⟨h', hk, hn, ha⟩ := newK_gives h (.cells c e false fz)
  have hsub := Rho.put_sub r.dom (w.heap.size, 0, ex)
  have hor : OR P (ρ.put h.next (w.heap.size, 0, ex)) (w.heap.push (.cells arr e)) (.cells c e false fz) w.heap.size 0 ex := by
    refine ⟨hg, arr, 0, 0, by simp, fun i v hi => ?_, (fun hx => (by cases hx)), by omega, Fz.new _ _ _⟩
    obtain ⟨v', h1, h2⟩ := hv i v hi
    exact ⟨v', by simpa using h1, VR.mono hsub h2⟩
  obtain ⟨h1, h2⟩ := new_sound (ob := .cells arr e) r hn ha hor (fun j h => by cases h)
  exact ⟨h', _, hk, ρ.put_same _ _, h1, h2⟩

/-- What append makes anew. -/
theorem grown_ok {ρ : Rho} {h : H} {w : World} {c : Cs} {olds news : List Value} {z : Value} {el : TypeId} {i : TypeInfo} {m cap fz : Nat} (r : HR P ρ h w) (hi : P.info? el = some i) (hz : z.cells.size = i.size) (hg : c.good) (hc : CRs ρ c.l (olds ++ news)) (hlen : c.l.length = m * i.size) :
    ∃ h' ρ' ex, (∀ k, h.newK (.cells c el false fz) k = k h.next h') ∧ grownCap w m cap el = m + ex ∧ ρ' h.next = some (w.heap.size, 0, ex) ∧
      HR P ρ' h' (w.drew.alloc (.cells (olds.toArray ++ (news.toArray ++ Builtin.zeroCells z.cells (grownCap w m cap el - m))) el)) ∧ St ρ h w ρ' h' (w.drew.alloc (.cells (olds.toArray ++ (news.toArray ++ Builtin.zeroCells z.cells (grownCap w m cap el - m))) el)) := by
  have hge := grownCap_ge w m cap el
  obtain ⟨ex, hex⟩ : ∃ ex, grownCap w m cap el = m + ex := ⟨grownCap w m cap el - m, by omega⟩
  have hco : P.cellsOf el = i.size := by simp [Program.cellsOf, hi]
  have hl := VRs.length hc
  simp only [List.length_map, List.length_append] at hl
  obtain ⟨h', ρ', hk, hρ, hr, hst⟩ := newCells_fz (arr := olds.toArray ++ (news.toArray ++ Builtin.zeroCells z.cells (grownCap w m cap el - m))) (e := el) (fz := fz) (ex := ex) (r.drew (w.drawn + 1)) hg (fun j v hj => by
      obtain ⟨v', h1, h2⟩ := CRs.at (vs := (olds ++ news).toArray) (by simpa using hc) j v hj
      refine ⟨v', ?_, h2⟩
      have hlt : j < (olds ++ news).length := by simpa using (Array.getElem?_eq_some_iff.1 h1).1
      have h1' : (olds ++ news)[j]? = some v' := by simpa using h1
      have : (olds.toArray ++ (news.toArray ++ Builtin.zeroCells z.cells (grownCap w m cap el - m))) = (olds ++ news).toArray ++ Builtin.zeroCells z.cells (grownCap w m cap el - m) := Array.ext' (by simp)
      rw [this, Array.getElem?_append_left (by simpa using hlt)]
      simpa using h1')
    (by
      have hs : (olds.toArray ++ (news.toArray ++ Builtin.zeroCells z.cells (grownCap w m cap el - m))).size = olds.length + (news.length + ex * i.size) := by
        rw [Array.size_append, Array.size_append, size_zeroCells, hz, hex, show m + ex - m = ex by omega]; simp
      rw [hs, hco]; omega)
  exact ⟨h', ρ', ex, hk, hex, hρ, hr, (St.drew ρ h w (w.drawn + 1)).trans hst⟩

/-- Cells that lie in a block, and no mark on them, are written. -/
theorem store_run {w : World} {b off : Nat} {arr : Array Value} {e : TypeId} {lo hi : Nat} {vs : List Value} (hb : w.heap[b]? = some (.cells arr e (lo, hi))) (hfit : off + vs.length ≤ arr.size) (hfr : ∀ j, j < vs.length → ¬ (lo ≤ off + j ∧ off + j < hi)) (h1 : ∀ v ∈ vs, v.oneCell' = true) :
    (storeCells ⟨b, off, none⟩ vs).run P w = .ok () (w.setCells b off vs) := by
  have h2 := run_storeCells_cells (P := P) b off vs 0 w (fun j hj => by
      have : off + 0 + j < arr.size := by omega
      simp [World.cell?, hb]; omega)
    (fun j hj => by
      have := hfr j hj
      simp only [World.frozen?, hb, Nat.add_zero]
      simp; omega) h1
  simpa using h2
end Go.Ev
end
section
/- Ev, soundness, part 31: append, all arms. Conditions: none. -/
namespace Go.Ev
set_option linter.unusedVariables false
variable {P : Program} {rv : RV} {rh : H}

theorem CRs.append {ρ : Rho} {a b : List Ce} {x y : List Value} (h : CRs ρ a x) (h' : CRs ρ b y) : CRs ρ (a ++ b) (x ++ y) := by
  show VRs ρ ((a ++ b).map Ce.toV) _
  rw [List.map_append]; exact VRs.append h h'

/-- Cells that may lie beyond the known ones are written; the block gets a new handle. -/
theorem inplace_ok {ρ : Rho} {h : H} {w : World} {a b base ex o len cap n fz : Nat} {c c' xs : Cs} {el : TypeId} {i : TypeInfo} {vs : List Value} (r : HR P ρ h w) (ho : h.at a = some (.cells c el false fz)) (hρ : ρ a = some (b, base, ex)) (hi : P.info? el = some i)
    (hg : c'.good) (hl : c'.l = (c.l.drop o).take (len * i.size) ++ xs.l) (hv : CRs ρ xs.l vs) (hn : vs.length = n * i.size) (h1 : o + len * i.size ≤ c.l.length) (h2 : o + cap * i.size ≤ c.l.length) (h3 : fz ≤ len * i.size + 1) (h4 : fz ≤ 1 ∨ o = 0) (h5 : len + n ≤ cap + ex) (h6 : cap < len + n) :
    ∃ h' ρ' ex', (∀ k : Nat → H → RT, (h.delK a fun h => h.newK (.cells c' el false fz) k) = k h.next h') ∧ len + n + ex' = cap + ex ∧ ρ' h.next = some (b, base + o, ex') ∧
      (storeCells ⟨b, base + o + len * i.size, none⟩ vs).run P w = .ok () (w.setCells b (base + o + len * i.size) vs) ∧ HR P ρ' h' (w.setCells b (base + o + len * i.size) vs) ∧ St ρ h w ρ' h' (w.setCells b (base + o + len * i.size) vs) := by
  obtain ⟨b', base', exx, q1, hor⟩ := r.obj _ _ ho
  rw [hρ] at q1; cases q1
  obtain ⟨hgc, arr, lo, hi', hb, hc, hex, hsz, hz⟩ := hor
  have hco : P.cellsOf el = i.size := by simp [Program.cellsOf, hi]
  rw [hco] at hsz
  have hmul : (len + n) * i.size ≤ (cap + ex) * i.size := Nat.mul_le_mul_right _ h5
  rw [Nat.add_mul, Nat.add_mul] at hmul
  have hxs : xs.l.length = vs.length := by simpa [CRs] using VRs.length hv
  have hcl : c'.l.length = len * i.size + n * i.size := by rw [hl]; simp; omega
  obtain ⟨arr', f1, f2, f3⟩ := setCells_heap b el (lo, hi') vs (base + o + len * i.size) w arr hb (by omega)
  obtain ⟨g1, g2, g3, g4⟩ := setCells_rest b vs (base + o + len * i.size) w
  obtain ⟨hd, hkd, hnd, had⟩ := delK_gives h a
  obtain ⟨h', hk, hn', ha⟩ := newK_gives hd (.cells c' el false fz)
  obtain ⟨ex', hex'⟩ : ∃ ex', len + n + ex' = cap + ex := ⟨cap + ex - (len + n), by omega⟩
  have hmul2 : len * i.size + n * i.size + ex' * i.size = cap * i.size + ex * i.size := by rw [← Nat.add_mul, ← Nat.add_mul, ← Nat.add_mul, hex']
  have hsub := Rho.put_sub r.dom (b, base + o, ex')
  have hor2 : OR P (ρ.put h.next (b, base + o, ex')) (w.setCells b (base + o + len * i.size) vs).heap (.cells c' el false fz) b (base + o) ex' := by
    refine ⟨hg, arr', lo, hi', f1, fun j v hj => ?_, (fun hx => (by cases hx)), by rw [f2, hcl, hco]; omega, ?_⟩
    · rw [f3]
      rw [hl] at hj
      by_cases hjl : j < len * i.size
      · rw [if_neg (by omega)]
        rw [List.getElem?_append_left (by simp; omega), List.getElem?_take, if_pos hjl, List.getElem?_drop] at hj
        obtain ⟨v', q1, q2⟩ := hc _ v hj
        exact ⟨v', by rw [Nat.add_assoc]; exact q1, VR.mono hsub q2⟩
      · have hjlt : j < len * i.size + n * i.size := by
          have := (List.getElem?_eq_some_iff.1 hj).1
          rw [← hl] at this; omega
        rw [if_pos (by omega)]
        have hlen : ((c.l.drop o).take (len * i.size)).length = len * i.size := by simp; omega
        rw [List.getElem?_append_right (by omega), hlen] at hj
        obtain ⟨v', q1, q2⟩ := VRs.get hv (j - len * i.size) v.toV (by simp [hj])
        exact ⟨v', by rw [← q1]; congr 1; omega, VR.mono hsub q2⟩
    · rcases h4 with h4 | h4
      · rw [f2]; exact ⟨hz.none, hz.behind, fun h => by omega⟩
      · subst h4; rw [f2]; exact hz
  obtain ⟨hr, hst⟩ := remake_sound (w' := w.setCells b (base + o + len * i.size) vs) r ho hρ (by rw [hn', hnd]) (fun m => by rw [ha, hnd, had]) g1 (fun i hne => setCells_other b vs _ w i hne) ⟨g2, g3, g4⟩ hor2 ⟨arr, el, _, hb⟩ (fun j hj => by cases hj)
  refine ⟨h', _, ex', fun k => by rw [hkd, hk, hnd], hex', ρ.put_same _ _, ?_, hr, hst⟩
  refine store_run hb (by omega) (fun j hj => ?_) (CRs.one hv)
  have := hz.free (j := o + len * i.size + j) (by omega) (by omega)
  rw [show base + o + len * i.size + j = base + (o + len * i.size + j) by omega]
  exact this

theorem append_ok {cx : Cx} (hcx : CxOk P cx) {ρ : Rho} {h : H} {w : World} {ts : Array TypeId} {t ty : TypeId} {c d : Ce} {v u : Value} {vs : List Value} {k : KV} (r : HR P ρ h w) (ht : ts[0]? = some t) (hts : NoInt P ts) (hv0 : vs[0]? = some v) (hv1 : vs[1]? = some u)
    (hc : CR ρ c v) (hd : CR ρ d u) (e : (appendE cx t c d h fun v => k (.s v)) = .ok rv rh) : Made P rv rh ρ h w k (Builtin.append_ ts ty vs.toArray) := by
  obtain ⟨ds, hu, e1⟩ := underK_ok hcx e
  obtain ⟨el, rfl, e2⟩ := dSlice_ok e1
  obtain ⟨i, hi, hzs, e3⟩ := tyK_ok' hcx e2
  obtain ⟨n, e4, hlen⟩ := lenE_ok r hd e3
  obtain ⟨xs, news, e5', hg, hxs, hsrc⟩ := srcK_ok r hd e4
  obtain ⟨hxn, e5⟩ := ifB_t e5'
  have hn := hsrc.len hlen
  have hfirst := fun w' => hsrc.first (P := P) (w' := w')
  have hnews : n = 0 → news = [] := fun h => by subst h; exact hsrc.zero
  have hxl : xs.l.length = news.length := by simpa [CRs] using VRs.length hxs
  have hnl : news.length = n * i.size := by
    have := Nat.eq_of_beq_eq_true hxn
    rw [xs.size_eq hg] at this; omega
  rcases onSl_ok e5 with ⟨ln, cp, rfl, e6⟩ | ⟨a, o, len, cap, rfl, e6⟩
  · obtain ⟨h0, e7⟩ := ifB_t e6
    rw [andB_eq, Bool.and_eq_true] at h0
    have hl0 := Nat.eq_of_beq_eq_true h0.1
    have hc0 := Nat.eq_of_beq_eq_true h0.2
    subst hl0; subst hc0
    have hv : v = .slice none 0 0 := by cases hc; rfl
    subst hv
    rcases ifB_ok e7 with ⟨hn0, e8⟩ | ⟨hn0, e8⟩
    · have := Nat.eq_of_beq_eq_true hn0
      subst this
      refine .of_read r ⟨_, _, e8, .s _ _ hc, ?_⟩
      have h0 : vs.toArray[0]? = some (.slice none 0 0) := by simpa using hv0
      have h1 : vs.toArray[1]? = some u := by simpa using hv1
      rw [append_zeros ht hts hu hi h0 h1]
      unfold Builtin.append_
      rw [h0, h1]
      simp [run_underlying hu, run_sizeOf hi, hn, hfirst w rfl]
    · have hpos : 0 < n := Nat.pos_of_ne_zero fun h => by subst h; cases hn0
      obtain ⟨e9, hr1, hr2⟩ := room_ok e8
      obtain ⟨z, hz, e10⟩ := onSome_ok e9
      obtain ⟨h', ρ', ex, hk, hcap, hρ, hr, hst⟩ := grown_ok (olds := []) (news := news) (m := n) (cap := 0) (fz := 0) (z := z) r hi (hzs z hz) hg (by simpa using hxs) (by rw [hxl, hnl])
      rw [hk] at e10
      have hrun := append_out (ty := ty) (olds := []) (news := news) ht hts hu hi hz hv0 hv1 hn (by simp [Builtin.firstCells]) (hfirst w.drew rfl) (by omega) (by omega) (room_fits (by omega) (by simpa using hr1))
      rw [Nat.zero_add] at hrun
      refine ⟨_, _, h', ρ', _, e10, hrun, hr, hst, .s _ _ ?_⟩
      rw [hcap]
      exact VR.sl (ρ := ρ') h.next 0 n n w.heap.size 0 ex hρ
  · rw [natK_eq] at e6
    obtain ⟨b, base, ex, hρ, rfl⟩ := hc.sl
    rcases ifB_ok e6 with ⟨hroom, e7⟩ | ⟨hroom, e7⟩
    · rw [Nat.ble_eq] at hroom
      rcases ifB_ok e7 with ⟨hn0, e8⟩ | ⟨hn0, e8⟩
      · have := Nat.eq_of_beq_eq_true hn0
        subst this
        have := hnews rfl
        subst this
        refine .of_read r ⟨_, _, e8, .s _ _ hc, ?_⟩
        have := append_in (ty := ty) (w := w) (w' := w) (news := []) ht hts hu hi hv0 hv1 hn (hfirst w rfl) (by omega) rfl
        simpa using this
      · rw [natK_eq] at e8
        obtain ⟨ob, ho, e9⟩ := getK_ok e8
        obtain ⟨c0, te, exact_, fz, rfl, e10⟩ := oCells_ok e9
        obtain ⟨hfz, e11⟩ := ifB_t e10
        obtain ⟨hfit, e12⟩ := ifB_t e11
        obtain ⟨b', base', ex', q1, q2⟩ := r.obj _ _ ho
        rw [xs.size_eq hg, c0.size_eq q2.1, Nat.ble_eq] at hfit
        rw [Nat.ble_eq] at hfz
        obtain ⟨h', hk, hth, hr, hst⟩ := write_sound (off := o + len * i.size) r ho hρ hg hxs hfit hfz
        rw [hk] at e8
        have hst2 : (storeCells ((⟨b, base + o, none⟩ : Addr).add (len * i.size)) news).run P w = .ok () (w.setCells b (base + (o + len * i.size)) news) := by
          rw [Addr.add_plain, Nat.add_assoc]
          have h2 := run_storeCells_cells (P := P) b (base + (o + len * i.size)) news 0 w (fun j hj => by simpa using (hth j hj).1) (fun j hj => by simpa using (hth j hj).2) (CRs.one hxs)
          simpa using h2
        have := append_in (ty := ty) ht hts hu hi hv0 hv1 hn (hfirst w rfl) (by omega) hst2
        refine ⟨_, _, h', ρ, _, e8, this, hr, hst, .s _ _ ?_⟩
        exact VR.sl (ρ := ρ) a o (len + n) cap b base ex hρ
    · have hroom' : cap < len + n := by
        rcases Nat.lt_or_ge cap (len + n) with h | h
        · exact h
        · have h' := Nat.ble_eq_true_of_le h; rw [h'] at hroom; cases hroom
      obtain ⟨e8, hr1, hr2⟩ := room_ok e7
      obtain ⟨z, hz, e9⟩ := onSome_ok e8
      obtain ⟨ob, ho, e10⟩ := getK_ok e9
      obtain ⟨c0, te, exact_, fz, rfl, e11⟩ := oCells_ok e10
      obtain ⟨hfit, e12⟩ := ifB_t e11
      obtain ⟨b', base', ex', q1, q2⟩ := r.obj _ _ ho
      rw [hρ] at q1; cases q1
      rw [c0.size_eq q2.1, Nat.ble_eq] at hfit
      obtain ⟨c1, hk1, hg1, hl1⟩ := Cs.subK_gives q2.1 o (len * i.size)
      obtain ⟨c2, hk2, hg2, hl2⟩ := Cs.mkK_gives hg1 hg
      obtain ⟨olds, o1, o2, o3⟩ := OR.sub q2 hfit
      have hc2 : CRs ρ c2.l (olds ++ news) := by rw [hl2, hl1]; exact CRs.append o2 hxs
      have hc2l : c2.l.length = (len + n) * i.size := by rw [hl2, hl1, List.length_append, hxl, hnl, Nat.add_mul]; simp; omega
      have hold : ∀ cp, (Builtin.firstCells i.size len (.slice (some ⟨b, base + o, none⟩) len cp)).run P w.drew = .ok olds.toArray w.drew := fun cp => by
        refine run_firstCells_some w.drew i.size len _ len cp olds o1 fun j v hj => ?_
        rw [Addr.add_plain]
        exact o3 j v hj
      rcases ifB_ok e12 with ⟨hx, e13⟩ | ⟨hx, e13⟩
      · subst hx
        obtain ⟨_, arr, lo, hi', hb, hcc, hex, hsz, hzz⟩ := q2
        have h0 := (hex rfl).1
        subst h0
        rw [hk1, hk2] at e13
        obtain ⟨h', ρ', ex', hk, hcap, hρ', hr, hst⟩ := grown_ok (olds := olds) (news := news) (m := len + n) (cap := cap) (fz := 0) (z := z) r hi (hzs z hz) hg2 hc2 hc2l
        rw [hk] at e13
        have hrun := append_out (ty := ty) (olds := olds) (news := news) ht hts hu hi hz hv0 hv1 hn (hold _) (hfirst w.drew rfl) (by omega) (by omega) (room_fits (by omega) hr1)
        refine ⟨_, _, h', ρ', _, e13, hrun, hr, hst, .s _ _ ?_⟩
        show VR ρ' _ _
        rw [Nat.add_zero, hcap]
        exact VR.sl (ρ := ρ') h.next 0 (len + n) (len + n) w.heap.size 0 ex' hρ'
      · subst hx
        obtain ⟨hck, e14⟩ := ifB_t e13
        rw [andB_eq, andB_eq, andB_eq, c0.size_eq q2.1] at hck
        simp only [Bool.and_eq_true, Nat.ble_eq] at hck
        obtain ⟨⟨k1, k2⟩, k3, k4⟩ := hck
        have k1' := Nat.eq_of_beq_eq_true k1
        subst k1'
        have k4' : fz ≤ 1 ∨ o = 0 := by
          rcases Nat.lt_or_ge 1 fz with h | h
          · have : Nat.ble fz 1 = false := by rw [ble_dec]; simp; omega
            rw [this] at k4
            exact .inr (Nat.eq_of_beq_eq_true k4)
          · exact .inl h
        have e15 : (h.delK a fun h => h.newK (.cells c2 te false fz) fun b2 h => (fun v => k (.s v)) (slc b2 0 (len + n) (len + n)) h) = .ok rv rh := by
          have : (h.delK a fun h => c0.subK o (len * i.size) fun c => c.mkK xs fun c => h.newK (.cells c te false fz) fun b2 h => (fun v => k (.s v)) (slc b2 0 (len + n) (len + n)) h) = .ok rv rh := e14
          simpa only [hk1, hk2] using this
        rcases Nat.lt_or_ge (cap + ex) (len + n) with h7 | h7
        · obtain ⟨hd, hkd, hnd, had⟩ := delK_gives h a
          obtain ⟨hrd, hstd⟩ := del_sound r hnd had (fun c _ => r.noMit ho c)
          rw [hkd] at e15
          obtain ⟨h', ρ', ex', hk, hcap, hρ', hr, hst⟩ := grown_ok (olds := olds) (news := news) (m := len + n) (cap := cap + ex) (fz := fz) (z := z) hrd hi (hzs z hz) hg2 hc2 hc2l
          rw [hk] at e15
          have hrun := append_out (ty := ty) (olds := olds) (news := news) ht hts hu hi hz hv0 hv1 hn (hold _) (hfirst w.drew rfl) h7 (by omega) (room_fits h7 hr1)
          refine ⟨_, _, h', ρ', _, e15, hrun, hr, hstd.trans hst, .s _ _ ?_⟩
          show VR ρ' _ _
          rw [hcap]
          exact VR.sl (ρ := ρ') hd.next 0 (len + n) (len + n) w.heap.size 0 ex' hρ'
        · obtain ⟨h', ρ', ex', hk, hcap, hρ', hst2, hr, hst⟩ := inplace_ok r ho hρ hi hg2 (by rw [hl2, hl1]) hxs hnl hfit k3 k2 k4' h7 hroom'
          rw [hk] at e15
          have hst3 : (storeCells ((⟨b, base + o, none⟩ : Addr).add (len * i.size)) news).run P w = .ok () (w.setCells b (base + o + len * i.size) news) := by rw [Addr.add_plain]; exact hst2
          have := append_in (ty := ty) ht hts hu hi hv0 hv1 hn (hfirst w rfl) h7 hst3
          refine ⟨_, _, h', ρ', _, e15, this, hr, hst, .s _ _ ?_⟩
          show VR ρ' _ _
          rw [← hcap]
          exact VR.sl (ρ := ρ') h.next 0 (len + n) (len + n) b (base + o) ex' hρ'
end Go.Ev
end
section
/- Ev, soundness, part 32: builtins: append, copy, clear, unsafe.String; all builtins. Conditions: none. -/
namespace Go.Ev
set_option linter.unusedVariables false
variable {P : Program} {rv : RV} {rh : H}

theorem bAppend_ok {cx : Cx} (hcx : CxOk P cx) {ρ : Rho} {h : H} {w : World} {ts : Array TypeId} {ty : TypeId} {args : List RV} {vs : List Value} {k : KV} (r : HR P ρ h w) (ha : RRs ρ args vs) (e : bAppend cx ts args h k = .ok rv rh) :
    Made P rv rh ρ h w k (Builtin.append_ ts ty vs.toArray) := by
  obtain ⟨t, ht, e1⟩ := ty0_ok e
  obtain ⟨hts, e2⟩ := noInt_ok hcx e1
  obtain ⟨c, d, v, u, h1, h2, hc, hd, e3⟩ := arg2_ok ha e2
  exact append_ok hcx r ht hts h1 h2 hc hd e3

theorem minN_eq (a b : Nat) : minN a b = min a b := by
  unfold minN
  rw [ble_dec, ifB_dec]
  split <;> omega

theorem bCopy_ok {cx : Cx} (hcx : CxOk P cx) {ρ : Rho} {h : H} {w : World} {ts : Array TypeId} {ty : TypeId} {args : List RV} {vs : List Value} {k : KV} (r : HR P ρ h w) (ha : RRs ρ args vs) (e : bCopy cx ts args h k = .ok rv rh) :
    Made P rv rh ρ h w k (Builtin.copy_ ts ty vs.toArray) := by
  obtain ⟨t, ht, e1⟩ := ty0_ok e
  obtain ⟨c, d, v, u, h1, h2, hc, hd, e2⟩ := arg2_ok ha e1
  obtain ⟨ds, hu, e3⟩ := underK_ok hcx e2
  obtain ⟨el, rfl, e4⟩ := dSlice_ok e3
  obtain ⟨i, hi, e5⟩ := tyK_ok hcx e4
  have hv0 : vs.toArray[0]? = some v := by simpa using h1
  have hv1 : vs.toArray[1]? = some u := by simpa using h2
  have lenOf : ∀ n, LenR w u n → (∀ a, u ≠ .map a) → (Builtin.lenOf u).run P w = .ok n w := fun n hn hm => by
    cases hn with
    | sl a n c => rfl
    | str s => rfl
    | nm => exact absurd rfl (hm _)
    | m b es clk hb => exact absurd rfl (hm _)
  rcases onSl_ok e5 with ⟨n, m, rfl, e6⟩ | ⟨a, o, len, cap, rfl, e6⟩
  · obtain ⟨hn0, e7⟩ := ifB_t e6
    have h0 := Nat.eq_of_beq_eq_true hn0
    subst h0
    obtain ⟨m', e8, hlen⟩ := lenE_ok r hd e7
    obtain ⟨xs, news, e9, hg, hxs, hsrc⟩ := srcK_ok r hd e8
    have hv : v = .slice none 0 m := by cases hc; rfl
    subst hv
    have hm : ∀ a, u ≠ .map a := fun a h => by subst h; cases hsrc
    have hl := lenOf m' hlen hm
    have hf : (Builtin.firstCells i.size 0 u).run P w = .ok news.toArray w := hsrc.first rfl
    refine .of_read r ⟨_, _, e9, .s _ _ (VR.int _ _), ?_⟩
    unfold Builtin.copy_
    rw [ht, hv0, hv1]
    simp [run_underlying hu, run_sizeOf hi, hl, hf, goInt]
  · obtain ⟨m, e7, hlen⟩ := lenE_ok r hd e6
    rw [natK_eq, minN_eq] at e7
    obtain ⟨xs, news, e8, hg, hxs, hsrc⟩ := srcK_ok r hd e7
    obtain ⟨b, base, ex, hρ, rfl⟩ := hc.sl
    have hm : ∀ a, u ≠ .map a := fun a h => by subst h; cases hsrc
    have hl := lenOf m hlen hm
    have hf : (Builtin.firstCells i.size (min m len) u).run P w = .ok news.toArray w := hsrc.first rfl
    have fin : ∀ w', (storeCells ⟨b, base + o, none⟩ news).run P w = .ok () w' → (Builtin.copy_ ts ty vs.toArray).run P w = .ok (.int .i64 ((min m len : Nat) : Int)) w' := fun w' hst => by
      unfold Builtin.copy_
      rw [ht, hv0, hv1]
      have hmin : Nat.min m len = min m len := rfl
      simp [run_underlying hu, run_sizeOf hi, hl, hmin, hf, hst, goInt]
    rcases ifB_ok e8 with ⟨hn0, e9⟩ | ⟨hn0, e9⟩
    · have h0 := Nat.eq_of_beq_eq_true hn0
      rw [h0] at hsrc
      have := hsrc.zero
      subst this
      refine .of_read r ⟨_, _, e9, .s _ _ (VR.int _ _), ?_⟩
      rw [fin w rfl, h0]; rfl
    · obtain ⟨ob, ho, f1⟩ := getK_ok e9
      obtain ⟨c0, te, exact_, fz, rfl, f2⟩ := oCells_ok f1
      obtain ⟨hfz, f3⟩ := ifB_t f2
      obtain ⟨hfit, f4⟩ := ifB_t f3
      obtain ⟨b', base', ex', q1, q2⟩ := r.obj _ _ ho
      rw [xs.size_eq hg, c0.size_eq q2.1, Nat.ble_eq] at hfit
      rw [Nat.ble_eq] at hfz
      obtain ⟨h', hk, hth, hr, hst⟩ := write_sound (off := o) r ho hρ hg hxs hfit hfz
      rw [hk] at e9
      have hst2 : (storeCells ⟨b, base + o, none⟩ news).run P w = .ok () (w.setCells b (base + o) news) := by
        have h2 := run_storeCells_cells (P := P) b (base + o) news 0 w (fun j hj => by simpa using (hth j hj).1) (fun j hj => by simpa using (hth j hj).2) (CRs.one hxs)
        simpa using h2
      exact ⟨_, _, h', ρ, _, e9, fin _ hst2, hr, hst, .s _ _ (VR.int _ _)⟩

theorem rowZero {z : Value} {n size : Nat} : Builtin.zeroCells z.cells n = (Array.range (n * z.cells.size)).map (z.cells[· % z.cells.size]!) := rfl

theorem bClear_ok {cx : Cx} (hcx : CxOk P cx) {ρ : Rho} {h : H} {w : World} {ts : Array TypeId} {ty : TypeId} {args : List RV} {vs : List Value} {k : KV} (r : HR P ρ h w) (ha : RRs ρ args vs) (e : bClear cx ts args h k = .ok rv rh) :
    Made P rv rh ρ h w k (Builtin.clear_ ts ty vs.toArray) := by
  obtain ⟨t, ht, e1⟩ := ty0_ok e
  obtain ⟨c, v, h1, hc, e2⟩ := arg1_ok ha e1
  obtain ⟨ds, hu, e3⟩ := underK_ok hcx e2
  obtain ⟨el, rfl, e4⟩ := dSlice_ok e3
  have hv0 : vs.toArray[0]? = some v := by simpa using h1
  have hun : RR ρ .u (.tuple #[]) := .t _ _ .u
  rcases onSl_ok e4 with ⟨n, m, rfl, e5⟩ | ⟨a, o, len, cap, rfl, e5⟩
  · have hv : v = .slice none n m := by cases hc; rfl
    subst hv
    refine .of_read r ⟨_, _, e5, hun, ?_⟩
    unfold Builtin.clear_
    rw [ht, hv0]
    simp [run_underlying hu]
  · obtain ⟨b, base, ex, hρ, rfl⟩ := hc.sl
    rcases ifB_ok e5 with ⟨hn0, e6⟩ | ⟨hn0, e6⟩
    · have h0 := Nat.eq_of_beq_eq_true hn0
      subst h0
      refine .of_read r ⟨_, _, e6, hun, ?_⟩
      unfold Builtin.clear_
      rw [ht, hv0]
      simp [run_underlying hu]
    · obtain ⟨cz, i, z, d, f1, hg, hv, hi, hz, hlen, hu', hrow⟩ := zeroK_ok hcx e6
      obtain ⟨cr, hk, gr, lr⟩ := Cs.timesK_gives len hg
      rw [hk] at f1
      have hrel := rows_rel (n := len) (d := cr) (hv ρ) lr
      obtain ⟨ob, ho, f2⟩ := getK_ok f1
      obtain ⟨c0, te, exact_, fz, rfl, f3⟩ := oCells_ok f2
      obtain ⟨hfz, f4⟩ := ifB_t f3
      obtain ⟨hfit, f5⟩ := ifB_t f4
      obtain ⟨b', base', ex', q1, q2⟩ := r.obj _ _ ho
      rw [cr.size_eq gr, c0.size_eq q2.1, Nat.ble_eq] at hfit
      rw [Nat.ble_eq] at hfz
      obtain ⟨h', hk2, hth, hr, hst⟩ := write_sound (off := o) r ho hρ gr hrel hfit hfz
      rw [hk2] at f1
      have hst2 := run_storeCells_cells (P := P) b (base + o) _ 0 w (fun j hj => by simpa using (hth j hj).1) (fun j hj => by simpa using (hth j hj).2) (CRs.one hrel)
      refine ⟨_, _, h', ρ, _, f1, ?_, hr, hst, hun⟩
      have hne : len ≠ 0 := fun h => by rw [h] at hn0; cases hn0
      obtain ⟨l, rfl⟩ : ∃ l, len = l + 1 := ⟨len - 1, by omega⟩
      unfold Builtin.clear_
      rw [ht, hv0]
      simp only [Nat.add_zero] at hst2
      have hzc : Builtin.zeroCells z.cells (l + 1) = (Array.range ((l + 1) * z.cells.size)).map (z.cells[· % z.cells.size]!) := rfl
      simp [run_underlying hu, run_zeroValue hi hz, hzc]
      simp only [Array.toList_map, Array.toList_range] at hst2
      rw [hst2]; rfl
end Go.Ev
end
section
/- Ev, soundness, part 33: unsafe.String; all builtins. Conditions: none. -/
namespace Go.Ev
set_option linter.unusedVariables false
variable {P : Program} {rv : RV} {rh : H}

theorem isByte_ok {cx : Cx} (hcx : CxOk P cx) {t : Nat} {k : RT} (e : isByte cx t k = .ok rv rh) : k = .ok rv rh ∧ P.cellsOf t = 1 := by
  obtain ⟨i, hi, e1⟩ := tyK_ok hcx e
  rcases ifB_ok e1 with ⟨h1, e2⟩ | ⟨_, e2⟩
  · obtain ⟨d, hu, e3⟩ := underK_ok hcx e2
    rcases dInt_ok e3 with ⟨j, rfl, e4⟩ | ⟨_, e4⟩
    · rcases ifB_ok e4 with ⟨_, e5⟩ | ⟨_, e5⟩
      · exact ⟨e5, by simp [Program.cellsOf, hi, Nat.eq_of_beq_eq_true h1]⟩
      · cases e5
    · cases e4
  · cases e2

theorem liesAt_off {e : TypeId} (hc : P.cellsOf e = 1) (count off n : Nat) (hn : off + n ≤ count) : liesAt P P.depth e count off e n = true := by
  have hd : P.depth = (2 * (P.types.size + Made.depth) + 1) + 1 := rfl
  rw [hd]
  simp only [liesAt, Bool.or_eq_true]
  left
  rw [hd]
  simp [rowAt, hc, hn, sameLayout, Nat.mod_one]

theorem loadBytes_run {w : World} {b : Nat} : ∀ (ns : List Nat) (o : Nat) (acc : ByteArray), (∀ (j : Nat) (n : Nat), ns[j]? = some n → w.cell? ⟨b, o + j, none⟩ = some (.int .u8 (n : Int))) →
    (loadBytes ⟨b, o, none⟩ acc ns.length).run P w = .ok ⟨acc.data ++ (ns.map UInt8.ofNat).toArray⟩ w
  | [], o, acc, _ => by simp [loadBytes]
  | n :: ns, o, acc, h => by
    have h0 : w.cell? ⟨b, o, none⟩ = some (.int .u8 (n : Int)) := by simpa using h 0 n rfl
    have ih := loadBytes_run (w := w) (b := b) ns (o + 1) (acc.push (n.toUInt8)) (fun j m hj => by
      have := h (j + 1) m (by simpa using hj)
      rw [show o + 1 + j = o + (j + 1) by omega]; exact this)
    have hadd : (⟨b, o, none⟩ : Addr).add 1 = ⟨b, o + 1, none⟩ := Addr.add_plain _ _ _
    simp only [List.length_cons, loadBytes, Sem.run_bind, run_load, h0, Result.andThen, hadd, Int.toNat_natCast]
    rw [ih]
    congr 1
    apply ByteArray.ext
    simp [ByteArray.push]

/-- unsafe.String, its arguments taken apart. -/
def usBody (pt : TypeId) (p : Option Addr) (len_ : Value) : Sem Value := do
  let n ← asInt len_
  if n < 0 then runtimePanic (.error "unsafe.String: len out of range")
  if n > IntKind.i64.max then unsupported (.unsafePointer "String: a length above the largest int")
  match p with
  | none =>
    if n = 0 then pure (.string .empty)
    else runtimePanic (.error "unsafe.String: ptr is nil and len is not zero")
  | some a =>
    if n = 0 then pure (.string .empty)
    else if ← variablesAt a (← elemOf pt) n.toNat then do
      let s ← loadBytes a .empty n.toNat
      freeze a n.toNat
      pure (.string s)
    else unsupported (.unsafePointer "String: not so many bytes at ptr")
theorem us_eq (pt ty : TypeId) (l : List TypeId) (p : Option Addr) (len_ : Value) : Builtin.unsafeString_ ⟨pt :: l⟩ ty [.pointer p, len_].toArray = usBody pt p len_ := rfl
theorem ts_cons {ts : Array TypeId} {pt : TypeId} (h : ts[0]? = some pt) : ∃ l, ts = ⟨pt :: l⟩ := by
  rcases ts with ⟨l⟩
  cases l with
  | nil => cases h
  | cons x l => cases h; exact ⟨l, rfl⟩

theorem bUString_ok {cx : Cx} (hcx : CxOk P cx) {ρ : Rho} {h : H} {w : World} {ts : Array TypeId} {ty : TypeId} {args : List RV} {vs : List Value} {k : KV} (r : HR P ρ h w) (ha : RRs ρ args vs) (e : bUString cx ts args h k = .ok rv rh) :
    Made P rv rh ρ h w k (Builtin.unsafeString_ ts ty vs.toArray) := by
  obtain ⟨pt, ht, e1⟩ := ty0_ok e
  obtain ⟨c, d, v, u, rfl, hc, hd, e2⟩ := args2_ok ha e1
  obtain ⟨j, n, rfl, e3⟩ := onInt_ok e2
  obtain ⟨m, rfl, e4⟩ := iabs_ok e3
  have := hd.int; subst this
  rcases ifB_ok e4 with ⟨h0, e5⟩ | ⟨h0, e5⟩
  · have := Nat.eq_of_beq_eq_true h0; subst this
    have key : ∀ a, (Builtin.unsafeString_ ts ty [.pointer a, .int j (Int.ofNat 0)].toArray).run P w = .ok (.string .empty) w := fun a => by
      obtain ⟨l, rfl⟩ := ts_cons ht
      rw [us_eq]
      unfold usBody
      cases a <;> simp [asInt, asIntOf, IntKind.max, IntKind.signed, IntKind.bits]
    rcases onPtr_ok e5 with ⟨rfl, e6⟩ | ⟨a, o, rfl, e6⟩
    · have : v = .pointer none := by cases hc; rfl
      subst this
      exact .of_read r ⟨_, _, e6, .s _ _ (VR.str _), key _⟩
    · obtain ⟨b, base, ex, hρ, rfl⟩ := (RR.s _ _ hc).place
      exact .of_read r ⟨_, _, e6, .s _ _ (VR.str _), key _⟩
  · rcases onPtr_ok e5 with ⟨_, e6⟩ | ⟨a, o, rfl, e6⟩
    · cases e6
    obtain ⟨dp, hu, e7⟩ := underK_ok hcx e6
    obtain ⟨el, rfl, e8⟩ := dPtr_ok e7
    obtain ⟨e9, hco⟩ := isByte_ok hcx e8
    obtain ⟨ht1, e10⟩ := ifB_t e9
    rw [andB_eq, Bool.and_eq_true, Nat.ble_eq] at ht1
    have := Nat.eq_of_beq_eq_true ht1.1; subst this
    obtain ⟨ob, ho, e11⟩ := getK_ok e10
    obtain ⟨c0, te, exact_, fz, rfl, e12⟩ := oCells_ok e11
    obtain ⟨ht2, e13⟩ := ifB_t e12
    rw [andB_eq, andB_eq, notB_eq] at ht2
    simp only [Bool.and_eq_true] at ht2
    obtain ⟨k1, k2, k3⟩ := ht2
    have := Nat.eq_of_beq_eq_true k1; subst this
    obtain ⟨b, base, ex, hρ, rfl⟩ := (RR.s _ _ hc).place
    obtain ⟨b', base', ex', q1, hor⟩ := r.obj _ _ ho
    rw [hρ] at q1; cases q1
    obtain ⟨hg, arr, lo, hi, hb, hcc, hex, hsz, hz⟩ := hor
    rw [c0.size_eq hg, Nat.ble_eq] at k2
    have hmne : m ≠ 0 := fun h => by subst h; cases h0
    have hfz1 : fz ≠ 1 := fun h => by subst h; cases k3
    obtain ⟨c1, hk1, hg1, hl1⟩ := Cs.takeK_gives hg m
    rw [hk1] at e13
    obtain ⟨l, e14, ns, hns, rfl⟩ := bytesK_ok e13
    rw [natK_eq] at e14
    have hnsl : ns.length = m := by
      have := congrArg List.length hns
      rw [hl1] at this; simp at this; omega
    have hif : ifB (Nat.blt m fz) fz (Nat.succ m) = if m < fz then fz else m + 1 := by
      by_cases hlt : m < fz
      · rw [if_pos hlt, (by simpa [Nat.blt_eq] using hlt : Nat.blt m fz = true)]; rfl
      · rw [if_neg hlt]
        have : Nat.blt m fz = false := by
          cases hq : Nat.blt m fz with
          | false => rfl
          | true => exact absurd (by simpa [Nat.blt_eq] using hq) hlt
        rw [this]; rfl
    rw [hif] at e14
    obtain ⟨h', hk, hn', hat⟩ := setK_gives h a (.cells c0 te exact_ (if m < fz then fz else m + 1))
    rw [hk] at e14
    have hfr : (w.freeze ⟨b, base, none⟩ m).heap = w.heap.modify b fun
        | .cells c elem (lo, hi) => .cells c elem (if lo == hi then (base, base + m) else (min lo base, max hi (base + m)))
        | o => o := by
      unfold World.freeze; rw [if_neg hmne]; rfl
    have hq : (w.freeze ⟨b, base, none⟩ m).heap[b]? = some (.cells arr te (if lo == hi then (base, base + m) else (min lo base, max hi (base + m)))) := by
      rw [hfr]; simp [Array.getElem?_modify, hb]
    have hnew : ∃ lo' hi', (w.freeze ⟨b, base, none⟩ m).heap[b]? = some (.cells arr te (lo', hi')) ∧ Fz (if m < fz then fz else m + 1) base lo' hi' arr.size := by
      by_cases h1 : (lo == hi) = true
      · rw [if_pos h1] at hq
        refine ⟨_, _, hq, ⟨fun h => ?_, fun h => ?_, fun h => ?_⟩⟩ <;> split at h <;> (try omega)
        · right; rw [if_pos (by assumption)]; omega
        · right; rw [if_neg (by assumption)]; omega
      · rw [if_neg h1] at hq
        have hne : lo ≠ hi := fun h => by subst h; simp at h1
        have h2 : 2 ≤ fz := by
          rcases Nat.lt_or_ge fz 2 with h | h
          · exact absurd (hz.none (by omega)) hne
          · exact h
        have h3 : hi ≤ base + (fz - 1) := (hz.ahead h2).resolve_left hne
        refine ⟨_, _, hq, ⟨fun h => ?_, fun h => ?_, fun h => ?_⟩⟩ <;> split at h <;> (try omega)
        · right; rw [if_pos (by assumption)]; omega
        · right; rw [if_neg (by assumption)]; omega
    obtain ⟨lo', hi', h1, h2⟩ := hnew
    obtain ⟨hr, hst⟩ := set_sound (w' := w.freeze ⟨b, base, none⟩ m) (o := .cells c0 te exact_ fz) r ho hρ hn' hat (by rw [hfr]; simp) (fun i hi => by rw [hfr]; simp [Array.getElem?_modify, Ne.symm hi]) (by unfold World.freeze; rw [if_neg hmne]; exact ⟨rfl, rfl, rfl⟩)
      ⟨hg, arr, lo', hi', h1, hcc, hex, hsz, h2⟩ (fun m' j' x y hm hj => by
        obtain ⟨bb, bs, exx, k1, bm, x', y', k2, k3, es, clk, k4, k5⟩ := r.obj m' _ hm
        rw [hj] at k2; cases k2
        rw [hb] at k4; cases k4) (fun c' _ => r.noMit ho c') (fun j hj => by cases hj)
    refine ⟨_, _, h', ρ, _, e14, ?_, hr, hst, .s _ _ (VR.str _)⟩
    have hlies := liesAt_off (P := P) hco (arr.size / P.cellsOf te) base m (by rw [hco]; simp; omega)
    have hlb := loadBytes_run (P := P) (w := w) (b := b) ns base .empty (fun j' n hj => by
      have hlt : j' < m := by rw [← hnsl]; exact (List.getElem?_eq_some_iff.1 hj).1
      have hcl : c0.l[j']? = some (.i .u8 (.ofNat n)) := by
        have := congrArg (fun l => l[j']?) hns
        simp only [hl1, List.getElem?_map, hj, Option.map_some, List.getElem?_take, if_pos hlt] at this
        exact this
      obtain ⟨v', p1, p2⟩ := hcc j' _ hcl
      have := p2.int; subst this
      simp [World.cell?, hb, p1])
    rw [hnsl] at hlb
    have hneg : ¬ (m : Int) < 0 := by omega
    obtain ⟨ts', rfl⟩ := ts_cons ht
    rw [us_eq]
    unfold usBody
    simp [asInt, asIntOf, hneg, hmne, variablesAt, World.shape?, hb, elemOf, run_underlying hu, hlies, hlb]
    omega

theorem bltE_ok {cx : Cx} (hcx : CxOk P cx) {ρ : Rho} {h : H} {w : World} {b : Builtin} {ts : Array TypeId} {ty : TypeId} {consts : Array Bool} {args : List RV} {vs : List Value} {k : KV} {kp : KP} (r : HR P ρ h w) (ha : RRs ρ args vs) (e : bltE b cx ts args h k = .ok rv rh) :
    NextOk P rv rh ρ h w k kp ((builtin b ts ty consts vs.toArray).run P w) := by
  cases b with
  | append => exact .of_made (bAppend_ok hcx r ha e)
  | cap => exact .of_made (bCap_ok hcx r ha e)
  | clear => exact .of_made (bClear_ok hcx r ha e)
  | copy => exact .of_made (bCopy_ok hcx r ha e)
  | len => exact .of_made (bLen_ok hcx r ha e)
  | max => exact .of_made (bMax_ok r ha e)
  | min => exact .of_made (bMin_ok r ha e)
  | unsafeSliceData => exact .of_made (bUSlice_ok r ha e)
  | unsafeString => exact .of_made (bUString_ok hcx r ha e)
  | _ => cases e
end Go.Ev
end

/- An evaluator of programs by terms that the kernel reduces, and the laws that it tells the truth. Conditions: none. -/
import Derived.MapKept
import Derived.Carry
import Derived.Laws.IdiomRangeMap
import Derived.Lib.OthersKept
import Derived.Recover
import Derived.Test.YtcjpaobmdfnpiaaGreatDoorEv3
set_option linter.all false
section
/- Ev, soundness, part 34: maps. Conditions: none. -/
namespace Go.Ev
set_option linter.unusedVariables false
variable {P : Program} {rv : RV} {rh : H}

/-- A key is of its type's kind. -/
def KeyOf (d : TypeDesc) (i : Ce) : Prop := (∃ j, d = .int j ∧ ∃ k n, i = .i k n) ∨ (d = .string ∧ ∃ s, i = .st s)
theorem keyK_ok {cx : Cx} (hcx : CxOk P cx) {t : Nat} {i : Ce} {k : RT} (e : keyK cx t i k = .ok rv rh) : ∃ d, P.underlying t = some d ∧ KeyOf d i ∧ k = .ok rv rh := by
  obtain ⟨d, hu, e1⟩ := underK_ok hcx e
  rcases dInt_ok e1 with ⟨j, rfl, e2⟩ | ⟨_, e2⟩
  · obtain ⟨k', n, rfl, e3⟩ := onInt_ok e2
    exact ⟨_, hu, .inl ⟨j, rfl, k', n, rfl⟩, e3⟩
  · rcases dStr_ok e2 with ⟨rfl, e3⟩ | ⟨_, e3⟩
    · obtain ⟨s, rfl, e4⟩ := onStr_ok e3
      exact ⟨_, hu, .inr ⟨rfl, s, rfl⟩, e4⟩
    · cases e3

theorem str_beq (s t : List UInt8) : ((⟨⟨s⟩⟩ : ByteArray) == ⟨⟨t⟩⟩) = (s == t) := by
  show ((⟨s⟩ : Array UInt8) == ⟨t⟩) = _
  simp
/-- A key of the kind is compared. -/
theorem sameNow_kin {d : TypeDesc} {i : Ce} {v : Value} (hk : KeyOf d i) (h : kin v = kin i.toV) : ∃ b : Bool, Instr.sameNow d i.toV v = some b ∧ (b = true ↔ v = i.toV) := by
  rcases hk with ⟨j, rfl, k', n, rfl⟩ | ⟨rfl, s, rfl⟩
  · cases v <;> simp [kin, Ce.toV] at h
    subst h
    refine ⟨_, by simp [Instr.sameNow, Ce.toV]; rfl, ?_⟩
    simp [Ce.toV]; exact ⟨fun h => h.symm, fun h => h.symm⟩
  · cases v <;> simp [kin, Ce.toV] at h
    rename_i t
    rcases t with ⟨⟨t⟩⟩
    refine ⟨s == t, ?_, ?_⟩
    · show some ((⟨⟨s⟩⟩ : ByteArray) == ⟨⟨t⟩⟩) = _
      rw [str_beq]
    · rw [beq_iff_eq]
      constructor
      · intro h; rw [h]; rfl
      · intro h; cases h; rfl
/-- Two keys, one of a map's. -/
theorem keyEq_ok {d : TypeDesc} {i x : Ce} {k : Bool → RT} (hk : KeyOf d i) (e : keyEq i x k = .ok rv rh) : ∃ b : Bool, k b = .ok rv rh ∧ kin x.toV = kin i.toV ∧ (b = true ↔ x.toV = i.toV) := by
  rcases hk with ⟨j, rfl, k', n, rfl⟩ | ⟨rfl, s, rfl⟩
  · obtain ⟨j2, m, rfl, e1⟩ := onInt_ok (c := x) e
    rcases ifB_ok e1 with ⟨h1, e2⟩ | ⟨_, e2⟩
    · have := kindEq_spec h1; subst this
      rw [boolK_eq] at e2
      refine ⟨natEqInt n m, e2, rfl, ?_⟩
      rw [natEqInt_eq]; simp [Ce.toV]; exact ⟨fun h => h.symm, fun h => h.symm⟩
    · cases e2
  · obtain ⟨t, rfl, e1⟩ := onStr_ok (c := x) e
    rw [boolK_eq] at e1
    refine ⟨leq s t, e1, rfl, ?_⟩
    rw [leq_eq, beq_iff_eq]
    constructor
    · intro h; rw [h]
    · intro h; cases h; rfl

theorem findNow_spec {d : TypeDesc} {i : Ce} (hk : KeyOf d i) : ∀ {es : List MapEntry} (n : Nat), (∀ e ∈ es, kin e.key = kin i.toV) →
    (∃ j e, es[j]? = some e ∧ e.key = i.toV ∧ Instr.findNow d i.toV es n = some (some (n + j, e.val))) ∨ ((∀ e ∈ es, e.key ≠ i.toV) ∧ Instr.findNow d i.toV es n = some none) := by
  intro es
  induction es with
  | nil => intro n _; exact .inr ⟨fun _ h => (by cases h), rfl⟩
  | cons e es ih =>
    intro n h
    obtain ⟨b, h1, h2⟩ := sameNow_kin hk (h e (.head _))
    cases b with
    | true => exact .inl ⟨0, e, rfl, h2.1 rfl, by simp [Instr.findNow, h1]⟩
    | false =>
      rcases ih (n + 1) (fun e' h' => h e' (.tail _ h')) with ⟨j, e', h3, h4, h5⟩ | ⟨h3, h4⟩
      · exact .inl ⟨j + 1, e', by simpa using h3, h4, by simp [Instr.findNow, h1, h5]; omega⟩
      · refine .inr ⟨fun e' h' => ?_, by simp [Instr.findNow, h1, h4]⟩
        cases h' with
        | head => intro hh; have := h2.2 hh; cases this
        | tail _ h' => exact h3 e' h'

theorem mFind_ok {ρ : Rho} {d : TypeDesc} {i : Ce} (hk : KeyOf d i) {k : Option RV → RT} : ∀ {l : ML} {es : List MapEntry}, MR ρ l es → mFind l i k = .ok rv rh →
    (es = [] ∨ ∃ e ∈ es, kin e.key = kin i.toV) ∧ ((k none = .ok rv rh ∧ ∀ e ∈ es, e.key ≠ i.toV) ∨ ∃ e ∈ es, ∃ x, k (some x) = .ok rv rh ∧ e.key = i.toV ∧ RR ρ x e.val) := by
  intro l es h
  induction h with
  | nil => intro e; exact ⟨.inl rfl, .inl ⟨e, fun _ h => by cases h⟩⟩
  | cons key v t e es hkey hv ht ih =>
    intro e1
    obtain ⟨b, e2, h1, h2⟩ := keyEq_ok (x := key) (k := fun b => ifB b (k (some v)) (mFind t i k)) hk e1
    rw [hkey] at h1 h2
    refine ⟨.inr ⟨e, .head _, h1⟩, ?_⟩
    cases b with
    | true => exact .inr ⟨e, .head _, v, e2, h2.1 rfl, hv⟩
    | false =>
      rcases (ih e2).2 with ⟨h3, h4⟩ | ⟨e', h3, x, h4, h5, h6⟩
      · refine .inl ⟨h3, fun e' h' => ?_⟩
        cases h' with
        | head => intro hh; have := h2.2 hh; cases this
        | tail _ h' => exact h4 e' h'
      · exact .inr ⟨e', .tail _ h3, x, h4, h5, h6⟩

theorem mPut_ok {ρ : Rho} {d : TypeDesc} {i : Ce} {y : RV} {v : Value} {clk : Nat} (hk : KeyOf d i) (hy : RR ρ y v) : ∀ {l : ML} {es : List MapEntry} {k : ML → RT}, MR ρ l es → mPut l i y k = .ok rv rh →
    (es = [] ∨ ∃ e ∈ es, kin e.key = kin i.toV) ∧ ∃ l' es', k l' = .ok rv rh ∧ MR ρ l' es' ∧ ((es' = es ++ [{ key := i.toV, val := v, born := clk }] ∧ ∀ e ∈ es, e.key ≠ i.toV) ∨
      ∃ j e, es[j]? = some e ∧ e.key = i.toV ∧ es' = es.set j { e with key := i.toV, val := v }) := by
  intro l es k h
  induction h generalizing k with
  | nil => intro e; exact ⟨.inl rfl, _, _, e, .cons i y .nil _ _ rfl hy .nil, .inl ⟨rfl, fun _ h => (by cases h)⟩⟩
  | cons key x t e es hkey hx ht ih =>
    intro e1
    obtain ⟨b, e2, h1, h2⟩ := keyEq_ok (x := key) (k := fun b => ifB b (k (.cons key y t)) (mPut t i y fun t1 => k (.cons key x t1))) hk e1
    rw [hkey] at h1 h2
    refine ⟨.inr ⟨e, .head _, h1⟩, ?_⟩
    cases b with
    | true =>
      have hke := h2.1 rfl
      exact ⟨_, { e with key := i.toV, val := v } :: es, e2, .cons key y t _ es (by rw [hkey, hke]) hy ht, .inr ⟨0, e, rfl, hke, rfl⟩⟩
    | false =>
      have hne : e.key ≠ i.toV := fun h => by have := h2.2 h; cases this
      obtain ⟨l', es', h3, h4, h5⟩ := (ih e2).2
      refine ⟨_, e :: es', h3, .cons key x l' e es' hkey hx h4, ?_⟩
      rcases h5 with ⟨h6, h7⟩ | ⟨j, e', h6, h7, h8⟩
      · exact .inl ⟨by rw [h6]; rfl, fun e'' hm => by
          cases hm with
          | head => exact hne
          | tail _ hm => exact h7 e'' hm⟩
      · exact .inr ⟨j + 1, e', by simpa using h6, h7, by rw [h8]; rfl⟩

theorem Hom.all {es : List MapEntry} {v : Value} (h : Hom es) (h' : es = [] ∨ ∃ e ∈ es, kin e.key = kin v) : ∀ e ∈ es, kin e.key = kin v := by
  rcases h' with h' | ⟨e', h1, h2⟩
  · subst h'; intro e h; cases h
  · obtain ⟨c, hc⟩ := h
    intro e he
    rw [hc e he, ← hc e' h1, h2]
/-- One entry alone bears a key. -/
theorem key_one {es : List MapEntry} (h : (es.map (·.key)).Nodup) {e e' : MapEntry} (h1 : e ∈ es) (h2 : e' ∈ es) (hk : e.key = e'.key) : e = e' := by
  induction es with
  | nil => cases h1
  | cons x es ih =>
    simp only [List.map_cons, List.nodup_cons, List.mem_map] at h
    cases h1 with
    | head =>
      cases h2 with
      | head => rfl
      | tail _ h2 => exact absurd ⟨e', h2, hk.symm⟩ h.1
    | tail _ h1 =>
      cases h2 with
      | head => exact absurd ⟨e, h1, hk⟩ h.1
      | tail _ h2 => exact ih h.2 h1 h2

theorem run_checkKey' {d : TypeDesc} {i : Ce} (hk : KeyOf d i) {t : TypeId} (hu : P.underlying t = some d) (b : Bool) (n : Nat) (w : World) : (Instr.checkKey b (n + 1) t i.toV).run P w = .ok () w := by
  rcases hk with ⟨j, rfl, k', m, rfl⟩ | ⟨rfl, s, rfl⟩ <;> simp [Instr.checkKey, run_underlying hu, Ce.toV]
theorem run_checkKey {d : TypeDesc} {i : Ce} (hk : KeyOf d i) {t : TypeId} (hu : P.underlying t = some d) (b : Bool) (w : World) : (Instr.checkKey b 10000 t i.toV).run P w = .ok () w := run_checkKey' hk hu b 9999 w

theorem CR.key {ρ : Rho} {d : TypeDesc} {i : Ce} {v : Value} (hk : KeyOf d i) (h : CR ρ i v) : v = i.toV := by
  rcases hk with ⟨j, rfl, k', n, rfl⟩ | ⟨rfl, s, rfl⟩
  · exact h.int
  · exact h.str

theorem look_read {cx : Cx} (hcx : CxOk P cx) {ρ : Rho} {h : H} {w : World} {t : Nat} {x i : RV} {v vi : Value} {ok : Bool} {k : KV} (r : HR P ρ h w) (hx : RR ρ x v) (hi : RR ρ i vi) (e : (pLook cx t x i ok h fun y => k y h) = .ok rv rh) :
    Read P rv rh ρ h w k (Instr.lookup t v vi ok) := by
  obtain ⟨c, rfl, e1⟩ := onS_ok e
  obtain ⟨rm, rfl, e2⟩ := onMap_ok e1
  obtain ⟨ci, rfl, e3⟩ := onS_ok e2
  obtain ⟨d, hu, e4⟩ := underK_ok hcx e3
  obtain ⟨kt, el, rfl, e5⟩ := dMap_ok e4
  obtain ⟨dk, huk, hkey, e6⟩ := keyK_ok hcx e5
  have hvi := CR.key hkey hi.scalar
  subst hvi
  have two : ∀ {y : RV} {u : Value} {b : Bool}, RR ρ y u → pTwo ok y b (fun y => k y h) = .ok rv rh → ∃ y' , k y' h = .ok rv rh ∧ RR ρ y' (if ok then .tuple #[u, .bool b] else u) := fun {y u b} hy e => by
    cases ok with
    | true => exact ⟨_, e, .t _ _ (.p _ _ _ _ hy (.p _ _ _ _ (.s _ _ (VR.bool _)) .u))⟩
    | false => exact ⟨_, e, hy⟩
  have none_ : ∀ (es : Array MapEntry), (∀ w, (Instr.findKey kt ci.toV es.toList).run P w = .ok none w) → pZero cx el (fun z => pTwo ok z false fun y => k y h) = .ok rv rh → (match v with | .map none => es = #[] | .map (some b) => ∃ clk, w.heap[b]? = some (.map es clk) | _ => False) → Read P rv rh ρ h w k (Instr.lookup t v ci.toV ok) := fun es hf e hm => by
    obtain ⟨y, u, e7, hy, hz⟩ := pZero_ok hcx (ρ := ρ) e
    obtain ⟨y', e8, hy'⟩ := two hy e7
    refine ⟨_, _, e8, hy', ?_⟩
    unfold Instr.lookup
    cases v with
    | map a =>
      cases a with
      | none => subst hm; simp [run_underlying hu, run_checkKey hkey huk, hf, hz]
      | some b => obtain ⟨clk, hb⟩ := hm; simp [run_underlying hu, run_checkKey hkey huk, hf, hz, getObj, Sem.run, hb]
    | _ => exact hm.elim
  cases rm with
  | none =>
    have hv : v = .map none := by cases hx.scalar; rfl
    subst hv
    exact none_ #[] (fun w => MapKept.run_findKey huk rfl) e6 rfl
  | some a =>
    obtain ⟨o, ho, e7⟩ := getK_ok (h := h) e6
    obtain ⟨l, rg, rfl, e8⟩ := oMap_ok e7
    have hsc := hx.scalar
    cases hsc with
    | m _ b base ex hρ =>
    obtain ⟨b', base', ex', q1, hor⟩ := r.obj _ _ ho
    rw [hρ] at q1; cases q1
    obtain ⟨es, clk, es', h1, h2, h3, h4, h5, h6⟩ := hor
    obtain ⟨hex, hcase⟩ := mFind_ok hkey h3 e8
    have hall := h5.all hex
    have hspec := findNow_spec hkey (es := es.toList) 0 (fun e he => hall e (h2.mem_iff.2 he))
    rcases hcase with ⟨e10, hn⟩ | ⟨e', he', y, e10, hke, hy⟩
    · rcases hspec with ⟨j, e2, hj, hk2, _⟩ | ⟨_, hf⟩
      · exact absurd hk2 (hn e2 (h2.mem_iff.2 (List.mem_of_getElem? hj)))
      · exact none_ es (fun w => MapKept.run_findKey huk hf) e10 ⟨clk, h1⟩
    · rcases hspec with ⟨j, e2, hj, hk2, hf⟩ | ⟨hn, _⟩
      · have := key_one h4 he' (h2.mem_iff.2 (List.mem_of_getElem? hj)) (by rw [hke, hk2])
        subst this
        obtain ⟨y', e11, hy'⟩ := two hy e10
        refine ⟨_, _, e11, hy', ?_⟩
        unfold Instr.lookup
        simp [run_underlying hu, run_checkKey hkey huk, MapKept.run_findKey huk hf, getObj, Sem.run, h1]
      · exact absurd hke (hn e' (h2.mem_iff.1 he'))
theorem look_ok {cx : Cx} (hcx : CxOk P cx) {ρ : Rho} {h : H} {w : World} {t : Nat} {x i : RV} {v vi : Value} {ok : Bool} {k : KV} (r : HR P ρ h w) (hx : RR ρ x v) (hi : RR ρ i vi) (e : (pLook cx t x i ok h fun y => k y h) = .ok rv rh) :
    Made P rv rh ρ h w k (Instr.lookup t v vi ok) := .of_read r (look_read hcx r hx hi e)
end Go.Ev
end
section
/- Ev, soundness, part 35: maps that are made and stored into; ranges. Conditions: none. -/
namespace Go.Ev
set_option linter.unusedVariables false
variable {P : Program} {rv : RV} {rh : H}

theorem mkM_ok {ρ : Rho} {h : H} {w : World} {t : TypeId} {k : KV} (r : HR P ρ h w) (e : pMkM h k = .ok rv rh) : Made P rv rh ρ h w k (Instr.makeMap t none) := by
  obtain ⟨h', hk, hn, ha⟩ := newK_gives h (.map .nil 0)
  have e1 : h.newK (.map .nil 0) (fun b => k (.s (.v (.map (some b))))) = .ok rv rh := e
  rw [hk] at e1
  obtain ⟨h1, h2⟩ := new_sound (ob := .map #[] 0) (ex := 0) r hn ha ⟨#[], 0, [], by simp, .refl _, .nil, by simp, ⟨none, fun _ h => (by cases h)⟩, fun _ h => (by cases h), by simp⟩ (fun j h => by cases h)
  exact ⟨_, _, h', _, _, e1, rfl, h1, h2, .s _ _ (VR.m _ _ _ _ (ρ.put_same _ _))⟩

theorem sameBits_key {d : TypeDesc} {i : Ce} (hk : KeyOf d i) : Instr.sameBits 10000 i.toV i.toV = true := by
  have : ∀ n, Instr.sameBits (n + 1) i.toV i.toV = true := fun n => by
    rcases hk with ⟨j, rfl, k', m, rfl⟩ | ⟨rfl, s, rfl⟩
    · simp [Instr.sameBits, Ce.toV]
    · show ((⟨⟨s⟩⟩ : ByteArray) == ⟨⟨s⟩⟩) = true
      rw [str_beq]; simp
  exact this 9999

/-! ### entries that are set -/
theorem set_erase {α : Type} {x e : α} : ∀ {l : List α} {j : Nat}, l[j]? = some e → l.Perm (e :: l.eraseIdx j) ∧ (l.set j x).Perm (x :: l.eraseIdx j) := by
  intro l
  induction l with
  | nil => intro j h; cases h
  | cons a l ih =>
    intro j h
    cases j with
    | zero => cases h; exact ⟨.refl _, .refl _⟩
    | succ j =>
      obtain ⟨h1, h2⟩ := ih (j := j) (by simpa using h)
      exact ⟨(h1.cons a).trans (.swap _ _ _), (h2.cons a).trans (.swap _ _ _)⟩
theorem set_perm {α : Type} {x e : α} {l l' : List α} {j j' : Nat} (hp : l.Perm l') (h : l[j]? = some e) (h' : l'[j']? = some e) : (l.set j x).Perm (l'.set j' x) := by
  obtain ⟨h1, h2⟩ := set_erase (x := x) h
  obtain ⟨h3, h4⟩ := set_erase (x := x) h'
  have : (l.eraseIdx j).Perm (l'.eraseIdx j') := (h1.symm.trans (hp.trans h3)).cons_inv
  exact h2.trans ((this.cons x).trans h4.symm)
theorem modify_list {α : Type} (a : Array α) (j : Nat) (f : α → α) (e : α) (h : a.toList[j]? = some e) : (a.modify j f).toList = a.toList.set j (f e) := by
  apply List.ext_getElem?
  intro i
  rw [List.getElem?_set]
  have ha : a[j]? = some e := by simpa using h
  have hlt : j < a.size := (Array.getElem?_eq_some_iff.1 ha).1
  by_cases hi : j = i
  · subst hi
    rw [if_pos rfl, if_pos (by simpa using hlt)]
    rw [Array.getElem?_toList, Array.getElem?_modify, if_pos rfl, ha]; rfl
  · rw [if_neg hi, Array.getElem?_toList, Array.getElem?_modify, if_neg hi]; simp

/-- A map is stored into. -/
theorem store_map {ρ : Rho} {h : H} {w : World} {d : TypeDesc} {i : Ce} {y : RV} {v : Value} {a b base ex : Nat} {l : ML} {kt el t : TypeId} {k : ML → RT} (r : HR P ρ h w) (hu : P.underlying t = some (.map kt el)) (huk : P.underlying kt = some d) (hkey : KeyOf d i) (hy : RR ρ y v) (ho : h.at a = some (.map l 0))
    (hρ : ρ a = some (b, base, ex)) (e : mPut l i y k = .ok rv rh) :
    ∃ l' w', k l' = .ok rv rh ∧ (Instr.mapUpdate t (.map (some b)) i.toV v).run P w = .ok () w' ∧ w'.heap.size = w.heap.size ∧ (∀ j, j ≠ b → w'.heap[j]? = w.heap[j]?) ∧ (w'.os = w.os ∧ w'.output = w.output ∧ w'.tape = w.tape) ∧ OR P ρ w'.heap (.map l' 0) b base ex := by
  obtain ⟨b', base', ex', q1, hor⟩ := r.obj _ _ ho
  rw [hρ] at q1; cases q1
  obtain ⟨es, clk, es', h1, h2, h3, h4, h5, h6, h8⟩ := hor
  obtain ⟨hex, l', es'', e1, h7, hcase⟩ := mPut_ok (clk := clk) hkey hy h3 e
  have hall := h5.all hex
  have hspec := findNow_spec hkey (es := es.toList) 0 (fun e he => hall e (h2.mem_iff.2 he))
  have hlt : b < w.heap.size := (Array.getElem?_eq_some_iff.1 h1).1
  rcases hcase with ⟨rfl, hn⟩ | ⟨j, e0, hj, hke, rfl⟩
  · rcases hspec with ⟨j, e2, hj, hk2, _⟩ | ⟨_, hf⟩
    · exact absurd hk2 (hn e2 (h2.mem_iff.2 (List.mem_of_getElem? hj)))
    · refine ⟨l', { w with heap := w.heap.setIfInBounds b (.map (es.push { key := i.toV, val := v, born := clk }) (clk + 1)) }, e1, ?_, by simp, fun j hj => by simp [Ne.symm hj], ⟨rfl, rfl, rfl⟩, ?_⟩
      · unfold Instr.mapUpdate
        simp [run_underlying hu, getObj, setObj, Sem.run, h1, run_checkKey hkey huk, MapKept.run_findKey huk hf]
      · refine ⟨_, clk + 1, _, by simp [hlt]; rfl, by simpa using h2.append_right [{ key := i.toV, val := v, born := clk }], h7, ?_, ?_, fun e he => ?_, ?_⟩
        · rw [List.map_append]
          refine List.nodup_append.2 ⟨h4, by simp, fun x hx z hz hxz => ?_⟩
          obtain ⟨e, he, rfl⟩ := List.mem_map.1 hx
          simp at hz
          subst hz
          exact hn e he hxz
        · obtain ⟨c, hc⟩ := h5
          have hki : ∃ c, kin i.toV = some c := by rcases hkey with ⟨_, _, k', n, rfl⟩ | ⟨_, s, rfl⟩ <;> exact ⟨_, rfl⟩
          obtain ⟨c', hc'⟩ := hki
          refine ⟨c', fun e he => ?_⟩
          rcases List.mem_append.1 he with he | he
          · rw [hall e he, hc']
          · simp at he; subst he; exact hc'
        · rcases List.mem_append.1 he with he | he
          · have := h6 e he; omega
          · simp at he; subst he; exact Nat.lt_succ_self _
        · rw [List.map_append]
          refine List.nodup_append.2 ⟨h8, by simp, fun x hx z hz hxz => ?_⟩
          obtain ⟨e, he, rfl⟩ := List.mem_map.1 hx
          simp at hz
          subst hz
          have := h6 e he; omega
  · rcases hspec with ⟨j', e2, hj', hk2, hf⟩ | ⟨hn, _⟩
    · have := key_one h4 (List.mem_of_getElem? hj) (h2.mem_iff.2 (List.mem_of_getElem? hj')) (by rw [hke, hk2])
      subst this
      rw [Nat.zero_add] at hf
      have hsb := sameBits_key hkey
      have hek : ((es[j']?).map (·.key)).getD i.toV = i.toV := by
        have : es[j']? = some e0 := by simpa using hj'
        rw [this]; simpa using hke
      refine ⟨l', { w with heap := w.heap.setIfInBounds b (.map (es.modify j' fun e => { e with key := i.toV, val := v }) clk) }, e1, ?_, by simp, fun j hj => by simp [Ne.symm hj], ⟨rfl, rfl, rfl⟩, ?_⟩
      · unfold Instr.mapUpdate
        simp [run_underlying hu, getObj, setObj, Sem.run, h1, run_checkKey hkey huk, MapKept.run_findKey huk hf, hek, Instr.keyThatStays, hsb]
      · have hset : es'.set j { e0 with key := i.toV, val := v } = es'.set j { e0 with val := v } := by rw [← hke]
        refine ⟨_, clk, _, by simp [hlt]; rfl, ?_, h7, ?_, ?_, fun e he => ?_, ?_⟩
        · rw [modify_list es j' _ e0 hj']; exact set_perm h2 hj hj'
        · rw [List.map_set, ← hke]
          have : (es'.map (·.key)).set j e0.key = es'.map (·.key) := by
            apply List.ext_getElem?
            intro n
            rw [List.getElem?_set]
            by_cases hn : j = n
            · subst hn
              have := (List.getElem?_eq_some_iff.1 hj).1
              rw [if_pos rfl, if_pos (by simpa using this), List.getElem?_map, hj]; rfl
            · rw [if_neg hn]
          rw [this]; exact h4
        · obtain ⟨c, hc⟩ := h5
          refine ⟨c, fun e he => ?_⟩
          rcases List.mem_or_eq_of_mem_set he with he | he
          · exact hc e he
          · subst he
            show kin i.toV = some c
            rw [← hke]; exact hc e0 (List.mem_of_getElem? hj)
        · rcases List.mem_or_eq_of_mem_set he with he | he
          · exact h6 e he
          · subst he; exact h6 e0 (List.mem_of_getElem? hj)
        · rw [List.map_set]
          have : (es'.map (·.born)).set j e0.born = es'.map (·.born) := by
            apply List.ext_getElem?
            intro n
            rw [List.getElem?_set]
            by_cases hn : j = n
            · subst hn
              have := (List.getElem?_eq_some_iff.1 hj).1
              rw [if_pos rfl, if_pos (by simpa using this), List.getElem?_map, hj]; rfl
            · rw [if_neg hn]
          show ((es'.map (·.born)).set j e0.born).Nodup
          rw [this]; exact h8
    · exact absurd hke (hn e0 (h2.mem_iff.1 (List.mem_of_getElem? hj)))

theorem mUpd_ok {cx : Cx} (hcx : CxOk P cx) {ρ : Rho} {h : H} {w : World} {t : Nat} {x i y : RV} {v vi vy : Value} {k : H → RT} (r : HR P ρ h w) (hx : RR ρ x v) (hi : RR ρ i vi) (hy : RR ρ y vy) (e : pMUpd cx t x i y h k = .ok rv rh) :
    ∃ h' w', k h' = .ok rv rh ∧ (Instr.mapUpdate t v vi vy).run P w = .ok () w' ∧ HR P ρ h' w' ∧ St ρ h w ρ h' w' := by
  obtain ⟨c, rfl, e1⟩ := onS_ok e
  obtain ⟨rm, rfl, e2⟩ := onMap_ok e1
  obtain ⟨ci, rfl, e3⟩ := onS_ok e2
  obtain ⟨d, hu, e4⟩ := underK_ok hcx e3
  obtain ⟨kt, el, rfl, e5⟩ := dMap_ok e4
  obtain ⟨dk, huk, hkey, e6⟩ := keyK_ok hcx e5
  have hvi := CR.key hkey hi.scalar
  subst hvi
  obtain ⟨a, rfl, e7⟩ := onSome_ok e6
  obtain ⟨o, ho, e8⟩ := getK_ok e7
  obtain ⟨l, rg, rfl, e9⟩ := oMap_ok e8
  obtain ⟨hrg, e10⟩ := ifB_t e9
  have := Nat.eq_of_beq_eq_true hrg; subst this
  have hsc := hx.scalar
  cases hsc with
  | m _ b base ex hρ =>
  obtain ⟨l', w', e11, hrun, hsz, hoth, hos, hor⟩ := store_map r hu huk hkey hy ho hρ e10
  obtain ⟨h', hk, hn, ha⟩ := setK_gives h a (.map l' 0)
  rw [hk] at e11
  obtain ⟨hr, hst⟩ := set_sound r ho hρ hn ha hsz hoth hos hor (fun m j x y hm hj => by
      obtain ⟨l2, h1⟩ := r.mit m j hm
      have := r.inj j a _ _ _ _ h1 ho hj hρ rfl
      subst this
      rw [ho] at h1; cases h1)
    (fun c _ hc => by
      obtain ⟨l2, h1⟩ := r.mit c a hc
      rw [ho] at h1; cases h1) (fun j hj => by cases hj)
  exact ⟨h', w', e11, hrun, hr, hst⟩
end Go.Ev
end
section
/- Ev, soundness, part 36: ranges over texts and maps. Conditions: none. -/
namespace Go.Ev
set_option linter.unusedVariables false
variable {P : Program} {rv : RV} {rh : H}

theorem range_ok {cx : Cx} (hcx : CxOk P cx) {ρ : Rho} {h : H} {w : World} {t : Nat} {x : RV} {v : Value} {k : KV} (r : HR P ρ h w) (hx : RR ρ x v) (e : pRange cx t x h k = .ok rv rh) : Made P rv rh ρ h w k (Instr.range t v) := by
  obtain ⟨c, rfl, e1⟩ := onS_ok e
  obtain ⟨d, hu, e2⟩ := underK_ok hcx e1
  rcases dStr_ok e2 with ⟨rfl, e3⟩ | ⟨_, e3⟩
  · obtain ⟨s, rfl, e4⟩ := onStr_ok e3
    have := hx.scalar.str; subst this
    obtain ⟨h', hk, hn, ha⟩ := newK_gives h (.siter s 0)
    rw [hk] at e4
    obtain ⟨h1, h2⟩ := new_sound (ob := .stringIter ⟨⟨s⟩⟩ 0) (ex := 0) r hn ha ⟨by simp, rfl⟩ (fun j h => by cases h)
    exact ⟨_, .pointer (some ⟨w.heap.size, 0, none⟩), h', _, _, e4, by simp [Instr.range, run_underlying hu, newObj, Sem.run], h1, h2, .s _ _ (VR.p _ _ _ _ _ (ρ.put_same _ _))⟩
  · obtain ⟨kt, el, rfl, e4⟩ := dMap_ok e3
    obtain ⟨rm, rfl, e5⟩ := onMap_ok e4
    obtain ⟨a, rfl, e6⟩ := onSome_ok e5
    obtain ⟨o, ho, e7⟩ := getK_ok e6
    obtain ⟨l, rg, rfl, e8⟩ := oMap_ok e7
    obtain ⟨hrg, e9⟩ := ifB_t e8
    have := Nat.eq_of_beq_eq_true hrg; subst this
    rw [natK_eq, H.nx_eq] at e9
    have hsc := hx.scalar
    cases hsc with
    | m _ b base ex hρ =>
    obtain ⟨b', base', ex', q1, hor⟩ := r.obj _ _ ho
    rw [hρ] at q1; cases q1
    have hor0 := hor
    obtain ⟨es, clk, es', q1, q2, q3, q4, q5, q6⟩ := hor
    obtain ⟨h1, hk1, hn1, ha1⟩ := setK_gives h a (.map l (h.next + 1))
    rw [hk1] at e9
    obtain ⟨r1, s1⟩ := set_sound (w' := w) r ho hρ hn1 ha1 rfl (fun _ _ => rfl) ⟨rfl, rfl, rfl⟩ (show OR P ρ w.heap (.map l (h.next + 1)) b base ex from hor0) (fun _ _ _ _ _ _ => rfl)
      (fun c _ hc => by
        obtain ⟨l2, h3⟩ := r.mit c a hc
        rw [ho] at h3; cases h3) (fun j hj => by cases hj)
    obtain ⟨h2, hk2, hn2, ha2⟩ := newK_gives h1 (.miter a)
    rw [hk2] at e9
    have hlt : b < w.heap.size := r.blk a _ hρ
    have hsub := Rho.put_sub r1.dom (w.heap.size, 0, 0)
    obtain ⟨r2, s2⟩ := new_sound (ob := .mapIter (some b) clk #[] clk) (ex := 0) r1 hn2 ha2
      ⟨b, base, ex, hsub _ _ hρ, rfl, es, clk, by rw [Array.getElem?_push]; rw [if_neg (by omega)]; exact q1, by simp⟩ (fun j hj => by cases hj; exact ⟨l, by rw [ha1, if_pos rfl, hn1]⟩)
    refine ⟨_, .pointer (some ⟨w.heap.size, 0, none⟩), h2, _, _, e9, ?_, r2, s1.trans s2, .s _ _ (VR.p _ _ _ _ _ (ρ.put_same _ _))⟩
    simp [Instr.range, run_underlying hu, newObj, Sem.run, getObj, q1]

theorem next_ok {ρ : Rho} {h : H} {w : World} {ty : TypeId} {x : RV} {v : Value} {str : Bool} {k : KV} (r : HR P ρ h w) (hx : RR ρ x v) (e : pNext x str h k = .ok rv rh) : Made P rv rh ρ h w k (Instr.next v str ty) := by
  obtain ⟨a, o, rfl, e1⟩ := onPlace_ok e
  obtain ⟨hso, e2⟩ := ifB_t e1
  rw [andB_eq, Bool.and_eq_true] at hso
  obtain ⟨rfl, ho0⟩ := hso
  have := Nat.eq_of_beq_eq_true ho0; subst this
  obtain ⟨ob, ho, e3⟩ := getK_ok e2
  obtain ⟨s, pos, rfl, e4⟩ := oIter_ok e3
  obtain ⟨b, base, ex, hρ, rfl⟩ := hx.place
  obtain ⟨b', base', ex', q1, hor⟩ := r.obj _ _ ho
  rw [hρ] at q1; cases q1
  obtain ⟨hb, rfl⟩ := hor
  have hsz : (⟨⟨s⟩⟩ : ByteArray).size = s.length := rfl
  rw [lget_eq] at e4
  rcases Nat.lt_or_ge pos s.length with hp | hp
  · rw [List.getElem?_eq_getElem hp] at e4
    have e5 : natK s[pos].toNat (fun n => ifB (Nat.blt n 128) (natK (pos + 1) fun p1 => h.setK a (.siter s p1) (k (.p (.s (.b true)) (.p (.s (.i .i64 (.ofNat pos))) (.p (.s (.i .i32 (.ofNat n))) .u))))) (.err "range over a string: a letter beyond ASCII")) = .ok rv rh := e4
    rw [natK_eq] at e5
    obtain ⟨hlt, e6⟩ := ifB_t e5
    have hlt' : s[pos].toNat < 128 := by simpa [Nat.blt_eq] using hlt
    rw [natK_eq] at e6
    obtain ⟨h', hk, hn, ha⟩ := setK_gives h a (.siter s (pos + 1))
    rw [hk] at e6
    have hrun := Lib.run_next_ascii_at (P := P) w b ⟨⟨s⟩⟩ pos ty hb hp (by exact hlt')
    have hblt : b < w.heap.size := (Array.getElem?_eq_some_iff.1 hb).1
    obtain ⟨hr, hst⟩ := set_sound (w' := w.iterAt b ⟨⟨s⟩⟩ (pos + 1)) r ho hρ hn ha (by simp [World.iterAt]) (fun i hi => by simp [World.iterAt, Ne.symm hi]) ⟨rfl, rfl, rfl⟩ (show OR P ρ _ (.siter s (pos + 1)) b 0 ex from ⟨Lib.iterAt_heap w b _ pos (pos + 1) hb, rfl⟩)
      (fun m j x y hm hj => by
        obtain ⟨bb, bs, exx, k1, bm, x', y', k2, k3, es, clk, k4, k5⟩ := r.obj m _ hm
        rw [hj] at k2; cases k2
        rw [hb] at k4; cases k4)
      (fun c _ hc => by
        obtain ⟨l2, h3⟩ := r.mit c a hc
        rw [ho] at h3; cases h3) (fun j hj => by cases hj)
    refine ⟨_, _, h', ρ, _, e6, hrun, hr, hst, ?_⟩
    exact .t _ _ (.p _ _ _ _ (.s _ _ (VR.bool _)) (.p _ _ _ _ (.s _ _ (VR.int _ _)) (.p _ _ _ _ (.s _ _ (VR.int _ _)) .u)))
  · rw [List.getElem?_eq_none hp] at e4
    refine .of_read r ⟨_, _, e4, .t _ _ (.p _ _ _ _ (.s _ _ (VR.bool _)) .u), ?_⟩
    exact Lib.run_next_end_at w b ⟨⟨s⟩⟩ pos ty hb (by rw [hsz]; omega)
end Go.Ev
end
section
/- Ev, soundness, part 37: temporaries; operands. Conditions: none. -/
namespace Go.Ev
set_option linter.unusedVariables false
variable {P : Program} {rv : RV} {rh : H}

def Env.look : Env → Nat → Option RV
  | .nil, _ => none
  | .cons m v t, n => if m = n then some v else t.look n
theorem Env.getK_ok {n : Nat} {k : RV → RT} : ∀ {e : Env}, e.getK n k = .ok rv rh → ∃ v, e.look n = some v ∧ k v = .ok rv rh
  | .nil, h => by cases h
  | .cons m v t, h => by
    have h' : ifB (Nat.beq m n) (k v) (t.getK n k) = .ok rv rh := h
    rw [beq_dec, ifB_dec] at h'
    by_cases hm : m = n
    · rw [if_pos hm] at h'; exact ⟨v, by simp [Env.look, hm], h'⟩
    · rw [if_neg hm] at h'
      obtain ⟨v', h1, h2⟩ := Env.getK_ok h'
      exact ⟨v', by simp [Env.look, hm, h1], h2⟩
theorem Env.setK_gives (n : Nat) (v : RV) : ∀ (e : Env), ∃ e' : Env, (∀ k, e.setK n v k = k e') ∧ ∀ m, e'.look m = if n = m then some v else e.look m
  | .nil => ⟨.cons n v .nil, fun _ => rfl, fun m => rfl⟩
  | .cons m w t => by
    obtain ⟨t', h1, h2⟩ := Env.setK_gives n v t
    by_cases hm : m = n
    · subst hm
      refine ⟨.cons m v t, fun k => ?_, fun j => ?_⟩
      · show ifB (Nat.beq m m) (k (.cons m v t)) (t.setK m v fun t1 => k (.cons m w t1)) = _
        rw [beq_dec, ifB_dec, if_pos rfl]
      · simp only [Env.look]
        by_cases hj : m = j
        · rw [if_pos hj, if_pos hj]
        · rw [if_neg hj, if_neg hj, if_neg hj]
    · refine ⟨.cons m w t', fun k => ?_, fun j => ?_⟩
      · show ifB (Nat.beq m n) (k (.cons n v t)) (t.setK n v fun t1 => k (.cons m w t1)) = _
        rw [beq_dec, ifB_dec, if_neg hm, h1]
      · simp only [Env.look]
        rw [h2]
        by_cases hj : m = j
        · subst hj; rw [if_pos rfl, if_pos rfl, if_neg (fun h => hm h.symm)]
        · rw [if_neg hj, if_neg hj]

/-- What is known of a temporary. -/
noncomputable def cur (keep : Nat) (l e : Env) (t : Nat) : Option RV := if kept keep t = true then e.look t else l.look t
/-- The temporaries stand to the model's; those of a kind. -/
def ERT (T : Nat → Prop) (keep : Nat) (ρ : Rho) (l e : Env) (tmps : Array Value) : Prop := ∀ t v, T t → cur keep l e t = some v → RR ρ v (tmps.getD t undef)
abbrev ER := ERT fun _ => True
theorem ERT.mono {T : Nat → Prop} {keep : Nat} {ρ ρ' : Rho} {l e : Env} {tmps : Array Value} (hs : ρ.sub ρ') (h : ERT T keep ρ l e tmps) : ERT T keep ρ' l e tmps := fun t v h1 h2 => (h t v h1 h2).mono hs
theorem ERT.out {keep : Nat} {ρ : Rho} {l e : Env} {tmps : Array Value} (h : ER keep ρ l e tmps) : ER keep ρ .nil e tmps := fun t v h1 h2 => by
  unfold cur at h2
  by_cases hk : kept keep t = true
  · rw [if_pos hk] at h2; exact h t v h1 (by unfold cur; rw [if_pos hk]; exact h2)
  · rw [if_neg hk] at h2; cases h2

theorem cst_ok {v : Value} {k : RV → RT} (e : cst v k = .ok rv rh) : ∃ x, k x = .ok rv rh ∧ ∀ ρ, RR ρ x v := by
  cases v with
  | bool b => exact ⟨_, e, fun ρ => .s _ _ (VR.bool _)⟩
  | int j n =>
    have e1 : intK n (fun n => k (.s (.i j n))) = .ok rv rh := e
    rw [intK_eq] at e1
    exact ⟨_, e1, fun ρ => .s _ _ (VR.int _ _)⟩
  | string s => exact ⟨_, e, fun ρ => .s _ _ (by rcases s with ⟨⟨l⟩⟩; exact VR.str _)⟩
  | pointer a => cases a with
    | none => exact ⟨_, e, fun ρ => .s _ _ VR.np⟩
    | some a => cases e
  | slice a n m => cases a with
    | none => exact ⟨_, e, fun ρ => .s _ _ (VR.ns n m)⟩
    | some a => cases e
  | map a => cases a with
    | none => exact ⟨_, e, fun ρ => .s _ _ VR.nm⟩
    | some a => cases e
  | nilFunc => exact ⟨_, e, fun ρ => .s _ _ VR.nf⟩
  | nilIface => exact ⟨_, e, fun ρ => .s _ _ VR.ni⟩
  | _ => cases e

noncomputable def Q.keep (q : Q) : Nat := Q.rec (motive := fun _ => Nat) (fun _ _ keep => keep) q
theorem tmpK_ok {q : Q} {T : Nat → Prop} {ρ : Rho} {l e : Env} {tmps : Array Value} {t : Nat} {k : RV → RT} (h : ERT T q.keep ρ l e tmps) (ht : T t) (e1 : tmpK q l e t k = .ok rv rh) : ∃ x, k x = .ok rv rh ∧ RR ρ x (tmps.getD t undef) := by
  cases q with
  | mk cx call keep =>
    have e2 : (Bool.rec (motive := fun _ => RT) (l.getK t k) (e.getK t k) (kept keep t) : RT) = .ok rv rh := e1
    cases hk : kept keep t with
    | true => rw [hk] at e2; obtain ⟨v, h1, h2⟩ := Env.getK_ok (e := e) e2; exact ⟨v, h2, h t v ht (by show (if kept keep t = true then _ else _) = _; rw [if_pos hk]; exact h1)⟩
    | false => rw [hk] at e2; obtain ⟨v, h1, h2⟩ := Env.getK_ok (e := l) e2; exact ⟨v, h2, h t v ht (by show (if kept keep t = true then _ else _) = _; rw [if_neg (by rw [hk]; simp)]; exact h1)⟩

/-- An operand's temporary is of the kind. -/
def Of (T : Nat → Prop) (o : Operand) : Prop := ∀ t, o = .tmp t → T t
theorem Of.all (o : Operand) : Of (fun _ => True) o := fun _ _ => trivial
theorem valK_ok {q : Q} {T : Nat → Prop} {ρ : Rho} {l e : Env} {a : Act} {o : Operand} {k : RV → RT} (hg : GlobR ρ) (h : ERT T q.keep ρ l e a.tmps) (ho : Of T o) (e1 : valK q l e o k = .ok rv rh) : ∃ x, k x = .ok rv rh ∧ RR ρ x (a.eval o) := by
  cases o with
  | tmp t => exact tmpK_ok h (ho t rfl) e1
  | const v => obtain ⟨x, h1, h2⟩ := cst_ok e1; exact ⟨x, h1, h2 ρ⟩
  | global g =>
    have e2 : ifB (Nat.blt g globN) (k (.s (.p g 0))) (.err "a variable that is not laid") = .ok rv rh := e1
    obtain ⟨h1, _⟩ := ifB_t e2
    have h3 : g < globN := by rw [Nat.blt_eq] at h1; exact h1
    exact absurd h3 (Nat.not_lt_zero g)
  | func f => exact ⟨_, e1, .s _ _ (VR.fn _ _ _ _ _ .nil .nil)⟩
theorem valsK_ok {q : Q} {T : Nat → Prop} {ρ : Rho} {l e : Env} {a : Act} (hg : GlobR ρ) (h : ERT T q.keep ρ l e a.tmps) : ∀ {os : List Operand} {k : List RV → RT}, (∀ o ∈ os, Of T o) → valsK q l e os k = .ok rv rh → ∃ xs, k xs = .ok rv rh ∧ RRs ρ xs (os.map a.eval)
  | [], k, _, e1 => ⟨[], e1, .nil⟩
  | o :: os, k, ho, e1 => by
    obtain ⟨x, e2, hx⟩ := valK_ok hg h (o := o) (k := fun v => valsK q l e os fun vs => k (v :: vs)) (ho o (.head _)) e1
    obtain ⟨xs, e3, hxs⟩ := valsK_ok hg h (fun o h => ho o (.tail _ h)) e2
    exact ⟨x :: xs, e3, .cons _ _ _ _ hx hxs⟩
theorem partsK_ok {q : Q} {T : Nat → Prop} {ρ : Rho} {l e : Env} {a : Act} (hg : GlobR ρ) (h : ERT T q.keep ρ l e a.tmps) : ∀ {os : List (Nat × Operand)} {k : List (Nat × RV) → RT}, (∀ o ∈ os, Of T o.2) → partsK q l e os k = .ok rv rh → ∃ xs, k xs = .ok rv rh ∧ PR ρ xs (os.map fun p => (p.1, a.eval p.2))
  | [], k, _, e1 => ⟨[], e1, .nil⟩
  | o :: os, k, ho, e1 => by
    obtain ⟨x, e2, hx⟩ := valK_ok hg h (o := o.2) (k := fun v => partsK q l e os fun vs => k ((o.1, v) :: vs)) (ho o (.head _)) e1
    obtain ⟨xs, e3, hxs⟩ := partsK_ok hg h (fun o h => ho o (.tail _ h)) e2
    exact ⟨(o.1, x) :: xs, e3, .cons _ _ _ _ _ hx hxs⟩
theorem optK_ok {q : Q} {T : Nat → Prop} {ρ : Rho} {l e : Env} {a : Act} {o : Option Operand} {k : Option RV → RT} (hg : GlobR ρ) (h : ERT T q.keep ρ l e a.tmps) (ho : ∀ x, o = some x → Of T x) (e1 : optK q l e o k = .ok rv rh) : ∃ x, k x = .ok rv rh ∧ OptR ρ x (o.map a.eval) := by
  cases o with
  | none => exact ⟨none, e1, .none⟩
  | some o =>
    obtain ⟨x, e2, hx⟩ := valK_ok hg h (o := o) (k := fun v => k (some v)) (ho o rfl) e1
    exact ⟨some x, e2, .some _ _ hx⟩

/-- What lies behind a pointer. -/
theorem load_read {cx : Cx} (hcx : CxOk P cx) {ρ : Rho} {h : H} {w : World} {t : Nat} {x : RV} {v : Value} {k : KV} (r : HR P ρ h w) (hx : RR ρ x v) (e : (pLoad cx t x h fun y => k y h) = .ok rv rh) : Read P rv rh ρ h w k (Instr.loadAt t v) := by
  obtain ⟨a, o, rfl, e1⟩ := onPlace_ok e
  obtain ⟨b, base, ex, hρ, rfl⟩ := hx.place
  obtain ⟨y, u, hy, e2, hrun⟩ := loadK_ok hcx r hρ e1
  exact ⟨y, u, e2, hy, by simp only [Instr.loadAt, Instr.sureAddr, Sem.run_bind, Sem.run_pure, Result.andThen_ok]; exact hrun⟩
theorem load_ok {cx : Cx} (hcx : CxOk P cx) {ρ : Rho} {h : H} {w : World} {t : Nat} {x : RV} {v : Value} {k : KV} (r : HR P ρ h w) (hx : RR ρ x v) (e : (pLoad cx t x h fun y => k y h) = .ok rv rh) : Made P rv rh ρ h w k (Instr.loadAt t v) := .of_read r (load_read hcx r hx e)
end Go.Ev
end
section
/- Ev, soundness, part 38: operations. Conditions: none. -/
namespace Go.Ev
set_option linter.unusedVariables false
variable {P : Program} {rv : RV} {rh : H}

theorem NextOk.skip {ρ : Rho} {h : H} {w : World} {k : KV} {kp : KP} {s : Sem Unit} (e : ∃ h' w', k .u h' = .ok rv rh ∧ s.run P w = .ok () w' ∧ HR P ρ h' w' ∧ St ρ h w ρ h' w') : NextOk P rv rh ρ h w k kp ((do s; pure .skip : Sem Next).run P w) := by
  obtain ⟨h', w', e1, e2, e3, e4⟩ := e
  simp only [Sem.run_bind, e2, Result.andThen_ok, Sem.run_pure]
  exact ⟨h', ρ, e1, e3, e4⟩

/-- Operations that leave the frame's deferred calls as they are. -/
theorem exO_ok {T : Nat → Prop} {q : Q} (hcx : CxOk P q.cx) (hfs : FieldsOk P) (hcall : CallOk P q.call) {ρ : Rho} {l e : Env} {a : Act} {o : Oper} {fr : F} {h : H} {w : World} {k : KF} {kp : KP} (r : HR P ρ h w) (hg : GlobR ρ) (he : ERT T q.keep ρ l e a.tmps) (hT : ∀ x ∈ o.op.operands, Of T x)
    (hd : ∀ c, o.op ≠ .defer c) (hrec : ∀ c b, o.op = .call c → c.callee = .builtin b → isRec b = false) (e1 : exO o.op q l e fr h k kp = .ok rv rh) : NextOk P rv rh ρ h w (fun v h => k v fr h) kp ((execOp a.eval o).run P w) := by
  cases hop : o.op with
  | move x =>
    rw [hop] at e1
    obtain ⟨xv, e2, hx⟩ := valK_ok hg he (o := x) (hT x (by simp [hop, Op.operands])) e1
    rw [show execOp a.eval o = pure (.value (a.eval x)) by unfold execOp; rw [hop]]
    exact .of_value r hx e2
  | assign x =>
    rw [hop] at e1
    obtain ⟨xv, e2, hx⟩ := valK_ok hg he (o := x) (hT x (by simp [hop, Op.operands])) e1
    rw [show execOp a.eval o = pure (.value (a.eval x)) by unfold execOp; rw [hop]]
    exact .of_value r hx e2
  | pick c x y =>
    rw [hop] at e1
    obtain ⟨cv, e2, hc⟩ := valK_ok hg he (o := c) (hT c (by simp [hop, Op.operands])) e1
    obtain ⟨cc, rfl, e3⟩ := onS_ok e2
    obtain ⟨b, rfl, e4⟩ := onBool_ok e3
    have hb := hc.scalar.bool
    have hrun : (execOp a.eval o).run P w = .ok (.value (if b then a.eval x else a.eval y)) w := by
      unfold execOp
      rw [hop]
      simp [hb, asBool]
    rw [hrun]
    cases b with
    | true => obtain ⟨xv, e5, hx⟩ := valK_ok hg he (o := x) (hT x (by simp [hop, Op.operands])) e4; exact .of_value r hx e5
    | false => obtain ⟨xv, e5, hx⟩ := valK_ok hg he (o := y) (hT y (by simp [hop, Op.operands])) e4; exact .of_value r hx e5
  | alloc t =>
    rw [hop] at e1
    rw [show execOp a.eval o = (do pure (.value (← Instr.alloc t true (.tuple #[])))) by unfold execOp; rw [hop]]
    exact .of_made (alloc_ok hcx r e1)
  | box t x =>
    rw [hop] at e1
    obtain ⟨xv, e2, hx⟩ := valK_ok hg he (o := x) (hT x (by simp [hop, Op.operands])) e1
    rw [show execOp a.eval o = (do pure (.value (← Instr.box t (a.eval x)))) by unfold execOp; rw [hop]]
    exact .of_made (box_ok r hx e2)
  | build t ps =>
    rw [hop] at e1
    obtain ⟨xs, e2, hx⟩ := partsK_ok hg he (os := ps.toList) (fun y hy => hT y.2 (by simp [hop, Op.operands]; exact ⟨y.1, by simpa using hy⟩)) e1
    obtain ⟨y, u, e3, hy, hrun⟩ := build_ok hcx hfs hx e2
    rw [show execOp a.eval o = (do pure (.value (← Instr.build t (ps.map fun (i, x) => (i, a.eval x))))) by unfold execOp; rw [hop]]
    have harr : (ps.map fun (i, x) => (i, a.eval x)) = (ps.toList.map fun p => (p.1, a.eval p.2)).toArray := by apply Array.ext'; simp
    rw [harr]
    exact .of_made (.of_read r ⟨y, u, e3, hy, hrun w⟩)
  | buildSlice t n ps =>
    rw [hop] at e1
    obtain ⟨xs, e2, hx⟩ := partsK_ok hg he (os := ps.toList) (fun y hy => hT y.2 (by simp [hop, Op.operands]; exact ⟨y.1, by simpa using hy⟩)) e1
    rw [show execOp a.eval o = (do pure (.value (← Instr.buildSlice t n (ps.map fun (i, x) => (i, a.eval x))))) by unfold execOp; rw [hop]]
    have harr : (ps.map fun (i, x) => (i, a.eval x)) = (ps.toList.map fun p => (p.1, a.eval p.2)).toArray := by apply Array.ext'; simp
    rw [harr]
    exact .of_made (buildSlice_ok hcx r hx e2)
  | insert t m i y =>
    rw [hop] at e1
    obtain ⟨xv, e2, hx⟩ := valK_ok hg he (o := m) (hT m (by simp [hop, Op.operands])) e1
    obtain ⟨iv, e3, hi⟩ := valK_ok hg he (o := i) (hT i (by simp [hop, Op.operands])) e2
    obtain ⟨yv, e4, hy⟩ := valK_ok hg he (o := y) (hT y (by simp [hop, Op.operands])) e3
    obtain ⟨h', w', e5, hrun, hr, hst⟩ := mUpd_ok hcx r hx hi hy e4
    rw [show execOp a.eval o = (do Instr.mapUpdate t (a.eval m) (a.eval i) (a.eval y); pure .skip) by unfold execOp; rw [hop]]
    exact .skip ⟨h', w', e5, hrun, hr, hst⟩
  | load t x =>
    rw [hop] at e1
    obtain ⟨xv, e2, hx⟩ := valK_ok hg he (o := x) (hT x (by simp [hop, Op.operands])) e1
    rw [show execOp a.eval o = (do pure (.value (← Instr.loadAt t (a.eval x)))) by unfold execOp; rw [hop]]
    exact .of_made (load_ok hcx r hx e2)
  | store t x y =>
    rw [hop] at e1
    obtain ⟨xv, e2, hx⟩ := valK_ok hg he (o := x) (hT x (by simp [hop, Op.operands])) e1
    obtain ⟨yv, e3, hy⟩ := valK_ok hg he (o := y) (hT y (by simp [hop, Op.operands])) e2
    obtain ⟨h', w', e4, hrun, hr, hst⟩ := store_ok hcx r hx hy e3
    rw [show execOp a.eval o = (do Instr.storeAt t (a.eval x) (a.eval y); pure .skip) by unfold execOp; rw [hop]]
    exact .skip ⟨h', w', e4, hrun, hr, hst⟩
  | ready g => rw [hop] at e1; cases e1
  | waits g => rw [hop] at e1; cases e1
  | nilCheck x =>
    rw [hop] at e1
    obtain ⟨xv, e2, hx⟩ := valK_ok hg he (o := x) (hT x (by simp [hop, Op.operands])) e1
    exact nil_ok hcx r hop hx e2
  | binOp b t x y u =>
    rw [hop] at e1
    obtain ⟨xv, e2, hx⟩ := valK_ok hg he (o := x) (hT x (by simp [hop, Op.operands])) e1
    obtain ⟨yv, e3, hy⟩ := valK_ok hg he (o := y) (hT y (by simp [hop, Op.operands])) e2
    obtain ⟨cx', rfl, e4⟩ := onS_ok e3
    obtain ⟨cy, rfl, e5⟩ := onS_ok e4
    obtain ⟨c, v, e6, hc, hrun⟩ := binS_ok hcx (X := x) (Y := y) hx.scalar hy.scalar e5
    rw [show execOp a.eval o = (do pure (.value (← (do eqGuard b t x y (a.eval x) (a.eval y); binOp b t (a.eval x) (a.eval y))))) by unfold execOp; rw [hop]]
    exact .of_made (.of_read r ⟨_, v, e6, .s _ _ hc, hrun w⟩)
  | unOp b t x =>
    rw [hop] at e1
    obtain ⟨xv, e2, hx⟩ := valK_ok hg he (o := x) (hT x (by simp [hop, Op.operands])) e1
    obtain ⟨y, u, e3, hy, hrun⟩ := un_ok (P := P) hx e2
    rw [show execOp a.eval o = (do pure (.value (← Op.unary b (a.eval x)))) by unfold execOp; rw [hop]]
    exact .of_made (.of_read r ⟨y, u, e3, hy, hrun w⟩)
  | convert s d x =>
    rw [hop] at e1
    obtain ⟨xv, e2, hx⟩ := valK_ok hg he (o := x) (hT x (by simp [hop, Op.operands])) e1
    rw [show execOp a.eval o = (do pure (.value (← convert s d (a.eval x)))) by unfold execOp; rw [hop]]
    exact .of_made (pConv_ok hcx r hx e2)
  | sliceToArrayPointer t x =>
    rw [hop] at e1
    obtain ⟨xv, e2, hx⟩ := valK_ok hg he (o := x) (hT x (by simp [hop, Op.operands])) e1
    rw [show execOp a.eval o = (do pure (.value (← Instr.arrayAt t (a.eval x)))) by unfold execOp; rw [hop]]
    exact .of_made (s2a_ok hcx r hx e2)
  | makeInterface t x =>
    rw [hop] at e1
    obtain ⟨xv, e2, hx⟩ := valK_ok hg he (o := x) (hT x (by simp [hop, Op.operands])) e1
    obtain ⟨y, u, e3, hy, hrun⟩ := mkI_ok hcx hx e2
    rw [show execOp a.eval o = (do pure (.value (← Instr.makeInterface t (a.eval x)))) by unfold execOp; rw [hop]]
    exact .of_made (.of_read r ⟨y, u, e3, hy, hrun w⟩)
  | makeFunc fn xs ys =>
    rw [hop] at e1
    obtain ⟨xv, e2, hx⟩ := valsK_ok hg he (os := xs.toList) (fun y hy => hT y (by have := Array.mem_toList_iff.1 hy; simp [hop, Op.operands, this])) e1
    obtain ⟨yv, e3, hy⟩ := valsK_ok hg he (os := ys.toList) (fun y hy => hT y (by have := Array.mem_toList_iff.1 hy; simp [hop, Op.operands, this])) e2
    rw [show execOp a.eval o = (do pure (.value (← Instr.makeFunc fn (xs.map a.eval) (ys.map a.eval)))) by unfold execOp; rw [hop]]
    have h1 : xs.map a.eval = (xs.toList.map a.eval).toArray := by apply Array.ext'; simp
    have h2 : ys.map a.eval = (ys.toList.map a.eval).toArray := by apply Array.ext'; simp
    rw [h1, h2]
    exact .of_made (mkF_ok r hx hy e3)
  | makeMap t x =>
    rw [hop] at e1
    cases x with
    | none =>
      rw [show execOp a.eval o = (do pure (.value (← Instr.makeMap t none))) by unfold execOp; rw [hop]; rfl]
      exact .of_made (mkM_ok r e1)
    | some x => cases e1
  | makeChan t x => rw [hop] at e1; cases e1
  | makeSlice t n c =>
    rw [hop] at e1
    obtain ⟨xv, e2, hx⟩ := valK_ok hg he (o := n) (hT n (by simp [hop, Op.operands])) e1
    obtain ⟨yv, e3, hy⟩ := valK_ok hg he (o := c) (hT c (by simp [hop, Op.operands])) e2
    rw [show execOp a.eval o = (do pure (.value (← Instr.makeSlice t (a.eval n) (a.eval c)))) by unfold execOp; rw [hop]]
    exact .of_made (makeSlice_ok hcx r hx hy e3)
  | slice t x lo hi mx =>
    rw [hop] at e1
    obtain ⟨xv, e2, hx⟩ := valK_ok hg he (o := x) (hT x (by simp [hop, Op.operands])) e1
    obtain ⟨lv, e3, hl⟩ := optK_ok hg he (o := lo) (fun y hy => hT y (by subst hy; simp [hop, Op.operands])) e2
    obtain ⟨hv, e4, hh⟩ := optK_ok hg he (o := hi) (fun y hy => hT y (by subst hy; simp [hop, Op.operands])) e3
    obtain ⟨mv, e5, hm⟩ := optK_ok hg he (o := mx) (fun y hy => hT y (by subst hy; simp [hop, Op.operands])) e4
    rw [show execOp a.eval o = (do pure (.value (← Instr.sliceAt t (a.eval x) (lo.map a.eval) (hi.map a.eval) (mx.map a.eval)))) by unfold execOp; rw [hop]]
    exact .of_made (pSlice_ok hcx r hx hl hh hm e5)
  | fieldAddr t x f =>
    rw [hop] at e1
    obtain ⟨xv, e2, hx⟩ := valK_ok hg he (o := x) (hT x (by simp [hop, Op.operands])) e1
    obtain ⟨y, u, e3, hy, hrun⟩ := fieldAddr_ok hcx hx e2
    rw [show execOp a.eval o = (do pure (.value (← Instr.fieldAt t (a.eval x) f))) by unfold execOp; rw [hop]]
    exact .of_made (.of_read r ⟨y, u, e3, hy, hrun w⟩)
  | field t x f =>
    rw [hop] at e1
    obtain ⟨xv, e2, hx⟩ := valK_ok hg he (o := x) (hT x (by simp [hop, Op.operands])) e1
    obtain ⟨y, u, e3, hy, hrun⟩ := field_ok hcx hx e2
    rw [show execOp a.eval o = (do pure (.value (← Instr.field t (a.eval x) f))) by unfold execOp; rw [hop]]
    exact .of_made (.of_read r ⟨y, u, e3, hy, hrun w⟩)
  | indexAddr t x i =>
    rw [hop] at e1
    obtain ⟨xv, e2, hx⟩ := valK_ok hg he (o := x) (hT x (by simp [hop, Op.operands])) e1
    obtain ⟨iv, e3, hi⟩ := valK_ok hg he (o := i) (hT i (by simp [hop, Op.operands])) e2
    obtain ⟨y, u, e4, hy, hrun⟩ := indexAddr_ok hcx hx hi e3
    rw [show execOp a.eval o = (do pure (.value (← Instr.indexAt t (a.eval x) (a.eval i)))) by unfold execOp; rw [hop]]
    exact .of_made (.of_read r ⟨y, u, e4, hy, hrun w⟩)
  | index t x i =>
    rw [hop] at e1
    obtain ⟨xv, e2, hx⟩ := valK_ok hg he (o := x) (hT x (by simp [hop, Op.operands])) e1
    obtain ⟨iv, e3, hi⟩ := valK_ok hg he (o := i) (hT i (by simp [hop, Op.operands])) e2
    obtain ⟨y, u, e4, hy, hrun⟩ := index_ok hcx hx hi e3
    rw [show execOp a.eval o = (do pure (.value (← Instr.index t (a.eval x) (a.eval i)))) by unfold execOp; rw [hop]]
    exact .of_made (.of_read r ⟨y, u, e4, hy, hrun w⟩)
  | lookup t x i ok =>
    rw [hop] at e1
    obtain ⟨xv, e2, hx⟩ := valK_ok hg he (o := x) (hT x (by simp [hop, Op.operands])) e1
    obtain ⟨iv, e3, hi⟩ := valK_ok hg he (o := i) (hT i (by simp [hop, Op.operands])) e2
    rw [show execOp a.eval o = (do pure (.value (← Instr.lookup t (a.eval x) (a.eval i) ok))) by unfold execOp; rw [hop]]
    exact .of_made (look_ok hcx r hx hi e3)
  | mapUpdate t m i y =>
    rw [hop] at e1
    obtain ⟨xv, e2, hx⟩ := valK_ok hg he (o := m) (hT m (by simp [hop, Op.operands])) e1
    obtain ⟨iv, e3, hi⟩ := valK_ok hg he (o := i) (hT i (by simp [hop, Op.operands])) e2
    obtain ⟨yv, e4, hy⟩ := valK_ok hg he (o := y) (hT y (by simp [hop, Op.operands])) e3
    obtain ⟨h', w', e5, hrun, hr, hst⟩ := mUpd_ok hcx r hx hi hy e4
    rw [show execOp a.eval o = (do Instr.mapUpdate t (a.eval m) (a.eval i) (a.eval y); pure .skip) by unfold execOp; rw [hop]]
    exact .skip ⟨h', w', e5, hrun, hr, hst⟩
  | mapEntry t m i => rw [hop] at e1; cases e1
  | entryStore t m s x => rw [hop] at e1; cases e1
  | range t x =>
    rw [hop] at e1
    obtain ⟨xv, e2, hx⟩ := valK_ok hg he (o := x) (hT x (by simp [hop, Op.operands])) e1
    rw [show execOp a.eval o = (do pure (.value (← Instr.range t (a.eval x)))) by unfold execOp; rw [hop]]
    exact .of_made (range_ok hcx r hx e2)
  | next x s =>
    rw [hop] at e1
    obtain ⟨xv, e2, hx⟩ := valK_ok hg he (o := x) (hT x (by simp [hop, Op.operands])) e1
    rw [show execOp a.eval o = (do pure (.value (← Instr.next (a.eval x) s o.type))) by unfold execOp; rw [hop]]
    exact .of_made (next_ok r hx e2)
  | entry x => rw [hop] at e1; cases e1
  | typeAssert x xt t ok =>
    rw [hop] at e1
    obtain ⟨xv, e2, hx⟩ := valK_ok hg he (o := x) (hT x (by simp [hop, Op.operands])) e1
    obtain ⟨y, u, e3, hy, hrun⟩ := assert_ok hcx (xt := xt) hx e2
    rw [show execOp a.eval o = (do pure (.value (← Instr.typeAssert (a.eval x) xt t ok))) by unfold execOp; rw [hop]]
    exact .of_made (.of_read r ⟨y, u, e3, hy, hrun w⟩)
  | extract x i =>
    rw [hop] at e1
    obtain ⟨xv, e2, hx⟩ := valK_ok hg he (o := x) (hT x (by simp [hop, Op.operands])) e1
    obtain ⟨y, u, e3, hy, hrun⟩ := extract_ok (P := P) hx e2
    rw [show execOp a.eval o = (do pure (.value (← Instr.extract (a.eval x) i))) by unfold execOp; rw [hop]]
    exact .of_made (.of_read r ⟨y, u, e3, hy, hrun w⟩)
  | call c =>
    rw [hop] at e1
    rw [show execOp a.eval o = (do let d ← resolve a.eval c o.type; invoke d.target d.args) by unfold execOp; rw [hop]]
    have harr : c.args.map a.eval = (c.args.toList.map a.eval).toArray := by apply Array.ext'; simp
    have e2 : oCall c q l e h (fun v h => k v fr h) kp = .ok rv rh := by
      cases hcal : c.callee with
      | value f => have : oCallP c q l e fr h k kp = .ok rv rh := e1; unfold oCallP at this; rw [hcal] at this; exact this
      | invoke f n => have : oCallP c q l e fr h k kp = .ok rv rh := e1; unfold oCallP at this; rw [hcal] at this; exact this
      | builtin b =>
        have : oCallP c q l e fr h k kp = .ok rv rh := e1
        unfold oCallP at this
        rw [hcal] at this
        have hb := hrec c b hop hcal
        simp only [hb] at this
        exact this
    obtain ⟨xs, e3, hxs⟩ := valsK_ok hg he (os := c.args.toList) (fun y hy => hT y (by have := Array.mem_toList_iff.1 hy; simp [hop, Op.operands, Call.operands, this])) e2
    rcases c with ⟨callee, args, argTypes⟩
    cases callee with
    | value f =>
      obtain ⟨fv, e4, hf⟩ := valK_ok hg he (o := f) (hT f (by simp [hop, Op.operands, Call.operands])) e3
      obtain ⟨fc, rfl, e5⟩ := onS_ok e4
      have := callV_ok hcx hcall r hf.scalar hxs e5
      rw [← harr] at this
      exact this
    | invoke f n =>
      obtain ⟨fv, e4, hf⟩ := valK_ok hg he (o := f) (hT f (by simp [hop, Op.operands, Call.operands])) e3
      obtain ⟨fc, rfl, e5⟩ := onS_ok e4
      have := callMeth_ok hcx hcall r hf.scalar hxs e5
      have hex : ∀ vs : List Value, (#[a.eval f] ++ vs.toArray).extract 1 (#[a.eval f] ++ vs.toArray).size = vs.toArray := fun vs => by apply Array.ext'; simp
      simp only [resolve, Sem.run_bind, Sem.run_pure, Result.andThen_ok, invoke]
      rw [harr, hex]
      simpa using this
    | builtin b =>
      have := bltE_ok hcx (b := b) (ty := o.type) (consts := args.map fun | .const _ => true | _ => false) (kp := kp) r hxs e3
      rw [← harr] at this
      exact this
  | go c => rw [hop] at e1; cases e1
  | defer c => exact absurd hop (hd c)
  | panic x =>
    rw [hop] at e1
    obtain ⟨xv, e2, hx⟩ := valK_ok hg he (o := x) (hT x (by simp [hop, Op.operands])) e1
    exact panic_ok r hop hx e2
  | send c x => rw [hop] at e1; cases e1
  | recv t c b => rw [hop] at e1; cases e1
  | select cs b => rw [hop] at e1; cases e1
end Go.Ev
end
section
/- Ev, soundness, part 39: frames, deferred or not: one judgement for both. Conditions: none. -/
namespace Go.Ev
set_option linter.unusedVariables false
variable {P : Program}

/-! ### a judgement over the frame, and over the mode of the frame that a deferred call leaves -/
/-- The callers: a deferred call's caller is in the mode u. -/
def stk (d : Bool) (c₀ : Frame) (u : FrameMode) (cs : List Frame) : List Frame := if d then { c₀ with mode := u } :: cs else cs
abbrev GQ := Exit → Act → FrameMode → World → Prop
def GWp (P : Program) (d : Bool) (c : Code) (Q : GQ) (a : Act) (u : FrameMode) (w : World) : Prop :=
  ∀ (b : Frame) (k : List Item) (c₀ : Frame) (cs : List Frame), (d = true → b.kind = .deferred ∧ b.roundOf = none) →
    ∃ e a' u' w', Q e a' u' w' ∧ Arrives P (lone (b.at a (.code c :: k)) (stk d c₀ u cs) w) b k (stk d c₀ u' cs) e a' w'

section
variable {d : Bool} {Q : GQ} {a : Act} {u : FrameMode} {w : World}
theorem GWp.mono {Q' : GQ} {c : Code} (h : GWp P d c Q a u w) (hq : ∀ e a u w, Q e a u w → Q' e a u w) : GWp P d c Q' a u w :=
  fun b k c₀ cs hb => let ⟨e, a', u', w', q, r⟩ := h b k c₀ cs hb; ⟨e, a', u', w', hq _ _ _ _ q, r⟩
theorem GWp.skip (h : Q .normal a u w) : GWp P d .skip Q a u w := fun _ _ _ _ _ => ⟨.normal, a, u, w, h, .one step_skip⟩
theorem GWp.label {l : Nat} (h : Q .normal a u w) : GWp P d (.label l) Q a u w := fun _ _ _ _ _ => ⟨.normal, a, u, w, h, .one step_label⟩
theorem GWp.exit {id : Nat} (h : Q (.exit id) a u w) : GWp P d (.exit id) Q a u w := fun _ _ _ _ _ => ⟨.exit id, a, u, w, h, fun _ hk => .one (step_exit hk)⟩
theorem GWp.ret (h : Q .ret a u w) : GWp P d .ret Q a u w := fun _ _ _ _ _ => ⟨.ret, a, u, w, h, _, .one step_ret⟩

def thenG (next : Act → FrameMode → World → Prop) (Q : GQ) : GQ
  | .normal, a, u, w => next a u w
  | e, a, u, w => Q e a u w
theorem GWp.seq {x y : Code} (h : GWp P d x (thenG (GWp P d y Q) Q) a u w) : GWp P d (.seq x y) Q a u w := by
  intro b k c₀ cs hb
  obtain ⟨e, a₁, u₁, w₁, hq, harr⟩ := h b (.code y :: k) c₀ cs hb
  cases e with
  | normal =>
    obtain ⟨e₂, a₂, u₂, w₂, hq₂, harr₂⟩ := hq b k c₀ cs hb
    exact ⟨e₂, a₂, u₂, w₂, hq₂, .of_steps (.head step_seq harr) harr₂⟩
  | exit id => exact ⟨_, a₁, u₁, w₁, hq, .of_steps (.one step_seq) (.pass (x := .code y) rfl (fun _ _ => .inl (by simp)) harr)⟩
  | goto l => exact ⟨_, a₁, u₁, w₁, hq, .of_steps (.one step_seq) (.pass (x := .code y) rfl (fun _ _ => .inl (by simp)) harr)⟩
  | ret => exact ⟨_, a₁, u₁, w₁, hq, .of_steps (.one step_seq) (.pass (x := .code y) rfl (fun _ _ => .inl (by simp)) harr)⟩
  | panic ch => exact ⟨_, a₁, u₁, w₁, hq, .of_steps (.one step_seq) (.pass (x := .code y) rfl (fun _ _ => .inl (by simp)) harr)⟩
  | outgrown => exact ⟨_, a₁, u₁, w₁, hq, .of_steps (.one step_seq) (.pass (x := .code y) rfl (fun _ _ => .inl (by simp)) harr)⟩
theorem GWp.cond {c : Operand} {x y : Code} {t : Bool} (hc : a.eval c = .bool t) (h : GWp P d (if t then x else y) Q a u w) : GWp P d (.cond c x y) Q a u w :=
  fun b k c₀ cs hb => let ⟨e, a', u', w', q, r⟩ := h b k c₀ cs hb; ⟨e, a', u', w', q, .of_steps (.one (step_cond hc)) r⟩
def inBlockG (id : Nat) (Q : GQ) : GQ
  | .exit id', a, u, w => if id' = id then Q .normal a u w else Q (.exit id') a u w
  | e, a, u, w => Q e a u w
theorem GWp.block {id : Nat} {c : Code} (h : GWp P d c (inBlockG id Q) a u w) : GWp P d (.block id c) Q a u w := by
  intro b k c₀ cs hb
  obtain ⟨e, a₁, u₁, w₁, hq, harr⟩ := h b (.inBlock id :: k) c₀ cs hb
  cases e with
  | normal => exact ⟨.normal, a₁, u₁, w₁, hq, .head step_block (Steps.trans harr (.one step_inBlock))⟩
  | exit id' =>
    by_cases hid : id' = id
    · simp only [inBlockG, hid, if_true] at hq
      exact ⟨.normal, a₁, u₁, w₁, hq, .head step_block (harr k (by simp [exitTo, hid]))⟩
    · simp only [inBlockG, hid, if_false] at hq
      refine ⟨.exit id', a₁, u₁, w₁, hq, fun k' hk => .head step_block (harr k' ?_)⟩
      have : (id == id') = false := by simp; exact fun h => hid h.symm
      simp [exitTo, this, hk]
  | goto l => exact ⟨_, a₁, u₁, w₁, hq, fun k' hk => .head step_block (harr k' (by simp [gotoIn, hk]))⟩
  | ret => exact ⟨_, a₁, u₁, w₁, hq, .of_steps (.one step_block) harr⟩
  | panic ch => exact ⟨_, a₁, u₁, w₁, hq, .of_steps (.one step_block) harr⟩
  | outgrown => exact ⟨_, a₁, u₁, w₁, hq, .of_steps (b := b) (k := k) (cs := stk d c₀ u₁ cs) (e := .outgrown) (.one step_block) harr⟩
/-- One round, then the loop again. -/
def againG (P : Program) (d : Bool) (c : Code) (Q : GQ) (a : Act) (u : FrameMode) (w : World) : Prop :=
  ∀ (b : Frame) (k : List Item) (c₀ : Frame) (cs : List Frame), (d = true → b.kind = .deferred ∧ b.roundOf = none) →
    ∃ e a' u' w', Q e a' u' w' ∧ Arrives P (lone (b.at a (.inLoop c :: k)) (stk d c₀ u cs) w) b k (stk d c₀ u' cs) e a' w'
theorem loop_aux {c : Code} (h : GWp P d c (thenG (againG P d c Q) Q) a u w) (b : Frame) (k : List Item) (c₀ : Frame) (cs : List Frame) (hb : d = true → b.kind = .deferred ∧ b.roundOf = none) :
    ∃ e a' u' w', Q e a' u' w' ∧ Arrives P (lone (b.at a (.code c :: .inLoop c :: k)) (stk d c₀ u cs) w) b k (stk d c₀ u' cs) e a' w' := by
  obtain ⟨e, a₁, u₁, w₁, hq, harr⟩ := h b (.inLoop c :: k) c₀ cs hb
  cases e with
  | normal =>
    obtain ⟨e₂, a₂, u₂, w₂, hq₂, harr₂⟩ := hq b k c₀ cs hb
    exact ⟨e₂, a₂, u₂, w₂, hq₂, .of_steps harr harr₂⟩
  | exit id => exact ⟨_, a₁, u₁, w₁, hq, .pass (x := .inLoop c) rfl (fun _ _ => .inl (by simp)) harr⟩
  | goto l => exact ⟨_, a₁, u₁, w₁, hq, .pass (x := .inLoop c) rfl (fun _ _ => .inl (by simp)) harr⟩
  | ret => exact ⟨_, a₁, u₁, w₁, hq, .pass (x := .inLoop c) rfl (fun _ _ => .inl (by simp)) harr⟩
  | panic ch => exact ⟨_, a₁, u₁, w₁, hq, .pass (x := .inLoop c) rfl (fun _ _ => .inl (by simp)) harr⟩
  | outgrown => exact ⟨_, a₁, u₁, w₁, hq, .pass (x := .inLoop c) rfl (fun _ _ => .inl (by simp)) harr⟩
theorem againG.step {c : Code} (h : GWp P d c (thenG (againG P d c Q) Q) a u w) : againG P d c Q a u w := fun b k c₀ cs hb =>
  let ⟨e, a', u', w', q, r⟩ := loop_aux h b k c₀ cs hb
  ⟨e, a', u', w', q, .of_steps (.one step_inLoop) r⟩
theorem GWp.loop {c : Code} (h : GWp P d c (thenG (againG P d c Q) Q) a u w) : GWp P d (.loop c) Q a u w := fun b k c₀ cs hb =>
  let ⟨e, a', u', w', q, r⟩ := loop_aux h b k c₀ cs hb
  ⟨e, a', u', w', q, .of_steps (.one step_loop) r⟩
theorem againG.mono {Q' : GQ} {c : Code} (h : againG P d c Q a u w) (hq : ∀ e a u w, Q e a u w → Q' e a u w) : againG P d c Q' a u w :=
  fun b k c₀ cs hb => let ⟨e, a', u', w', q, r⟩ := h b k c₀ cs hb; ⟨e, a', u', w', hq _ _ _ _ q, r⟩
theorem GWp.of_wp {c : Code} (h : c.wp P (fun e a w => Q e a u w) a w) : GWp P d c Q a u w := fun b k c₀ cs _ =>
  let ⟨e, a', w', q, r⟩ := h b k (stk d c₀ u cs)
  ⟨e, a', u, w', q, r⟩
end

/-! ### regions -/
def recU : FrameMode → Option (Value × FrameMode)
  | .panicking ({ v, recovered := false, goexit := false } :: older) => some (v, .panicking ({ v, recovered := true } :: older))
  | _ => none
theorem recoverD_stk (c₀ : Frame) (u : FrameMode) (cs : List Frame) : recoverD ({ c₀ with mode := u } :: cs) = (recU u).map fun p => (p.1, { c₀ with mode := p.2 } :: cs) := by
  unfold recoverD recU
  cases u with
  | run => rfl
  | returning => rfl
  | panicking chain =>
    cases chain with
    | nil => rfl
    | cons x l => rcases x with ⟨v, r, g⟩; cases r <;> cases g <;> rfl

/-- A region's operations, one behind the other. -/
def GOps (P : Program) (d : Bool) (ops : Array Oper) (Q : GQ) : List Nat → Act → FrameMode → World → Prop
  | [], a, u, w => Q .normal a u w
  | i :: rest, a, u, w =>
    match ops[i]? with
    | none => GOps P d ops Q rest a u w
    | some o =>
      if Region.wanted o (yielded ops a.tmps) then
        (d = true ∧ ∃ w', (execOp a.eval o).run P w = .ok .recover w' ∧ match recU u with
          | some (v, u') => GOps P d ops Q rest (a.put o.dst v) u' w'
          | none => GOps P d ops Q rest (a.put o.dst .nilIface) u w') ∨
        o.upon P a (fun a' w' => GOps P d ops Q rest a' u w') (fun e a' w' => Q e a' u w') ((execOp a.eval o).run P w)
      else GOps P d ops Q rest (a.put o.dst undef) u w

theorem GOps.wp {ops : Array Oper} {Q : GQ} {u : FrameMode} : ∀ (l : List Nat) (a : Act) (w : World), GOps P false ops Q l a u w → wpOps P ops (fun e a w => Q e a u w) l a w := by
  intro l
  induction l with
  | nil => intro a w h; exact h
  | cons i rest ih =>
    intro a w h
    simp only [GOps, wpOps] at h ⊢
    cases ho : ops[i]? with
    | none => rw [ho] at h; exact ih a w h
    | some o =>
      rw [ho] at h
      simp only at h ⊢
      split at h
      · rename_i hw
        rw [if_pos hw]
        rcases h with ⟨h1, _⟩ | h
        · cases h1
        · refine .inl ?_
          unfold Oper.wp
          revert h
          generalize (execOp a.eval o).run P w = res
          intro h
          unfold Oper.upon at h ⊢
          split at h
          · exact ih _ _ h
          · exact ih _ _ h
          · exact ih _ _ h
          · refine Calls.mono h fun e w' he => ?_
            cases e with
            | returned v => exact ih _ _ he
            | panicked ch => exact he
            | outgrown => obtain ⟨a₀, w₀, q⟩ := he; exact ⟨a₀, w₀, q⟩
          · exact Rows.mono h fun v w' he => ih _ _ he
          · exact h
          · exact h.elim
      · rename_i hw
        rw [if_neg hw]; exact ih _ _ h

theorem GOps.wpS {ops : Array Oper} {Q : GQ} {c₀ : Frame} {cs : List Frame} : ∀ (l : List Nat) (a : Act) (u : FrameMode) (w : World), GOps P true ops Q l a u w →
    wpOpsS P ops (fun e a cs' w => ∃ u', cs' = { c₀ with mode := u' } :: cs ∧ Q e a u' w) l a ({ c₀ with mode := u } :: cs) w := by
  intro l
  induction l with
  | nil => intro a u w h; exact ⟨u, rfl, h⟩
  | cons i rest ih =>
    intro a u w h
    simp only [GOps, wpOpsS] at h ⊢
    cases ho : ops[i]? with
    | none => rw [ho] at h; exact ih a u w h
    | some o =>
      rw [ho] at h
      simp only at h ⊢
      split at h
      · rename_i hw
        rw [if_pos hw]
        rcases h with ⟨_, w', hrun, h⟩ | h
        · rw [hrun, recoverD_stk]
          cases hr : recU u with
          | none => rw [hr] at h; exact ih _ _ _ h
          | some p => rw [hr] at h; exact ih _ _ _ h
        · revert h
          generalize (execOp a.eval o).run P w = res
          intro h
          have key : o.upon P a (fun a' w' => wpOpsS P ops (fun e a cs' w => ∃ u', cs' = { c₀ with mode := u' } :: cs ∧ Q e a u' w) rest a' ({ c₀ with mode := u } :: cs) w') (fun e a' w' => ∃ u', { c₀ with mode := u } :: cs = { c₀ with mode := u' } :: cs ∧ Q e a' u' w') res := by
            unfold Oper.upon at h ⊢
            split at h
            · exact ih _ _ _ h
            · exact ih _ _ _ h
            · exact ih _ _ _ h
            · refine Calls.mono h fun e w' he => ?_
              cases e with
              | returned v => exact ih _ _ _ he
              | panicked ch => exact ⟨u, rfl, he⟩
              | outgrown => obtain ⟨a₀, w₀, q⟩ := he; exact ⟨a₀, w₀, u, rfl, q⟩
            · exact Rows.mono h fun v w' he => ih _ _ _ he
            · exact ⟨u, rfl, h⟩
            · exact h.elim
          cases res with
          | halt x w' => exact key
          | ok nx w' => cases nx <;> first | exact key | exact absurd h (fun h => h)
      · rename_i hw
        rw [if_neg hw]; exact ih _ _ _ h

theorem GWp.region {d : Bool} {id : Nat} {ops : Array Oper} {Q : GQ} {a : Act} {u : FrameMode} {w : World} (h : GOps P d ops Q (List.range ops.size) a u w) : GWp P d (.region id ops false) Q a u w := by
  cases d with
  | false => exact .of_wp (wp_region (GOps.wp _ a w h))
  | true =>
    intro b k c₀ cs hb
    obtain ⟨hk, hr⟩ := hb rfl
    have h1 := GOps.wpS (c₀ := c₀) (cs := cs) _ a u w h
    obtain ⟨e, a', cs', w', ⟨u', rfl, hq⟩, harr⟩ := wpS_region h1 b k hk hr
    exact ⟨e, a', u', w', hq, harr⟩
end Go.Ev
end
section
/- Ev, soundness, part 40: frames; a region in the text's order. Conditions: none. -/
namespace Go.Ev
set_option linter.unusedVariables false
variable {P : Program} {rv : RV} {rh : H}

/-- Deferred calls. -/
inductive DsR (ρ : Rho) : Ds → List Deferred → Prop
  | nil : DsR ρ .nil []
  | cons (f : Ce) (args : List RV) (t : Ds) (fv : Fn) (cap first : Array Value) (vs : List Value) (ds : List Deferred) (hf : CR ρ f (.func fv first cap)) (ha : RRs ρ args vs) (ht : DsR ρ t ds) :
      DsR ρ (.cons f args t) ({ target := .fn fv cap, args := first ++ vs.toArray } :: ds)
theorem DsR.mono {ρ ρ' : Rho} (hs : ρ.sub ρ') {d : Ds} {ds : List Deferred} (h : DsR ρ d ds) : DsR ρ' d ds := by
  induction h with
  | nil => exact .nil
  | cons f args t fv cap first vs ds hf ha ht ih => exact .cons f args t fv cap first vs ds (VR.mono hs hf) (ha.mono hs) ih
/-- What may be recovered: in a frame that is no deferred call's, nothing; in a deferred call's, by how the frame before it unwinds. -/
def RcR (dm : Option Md) (ρ : Rho) (rc : Rc) (u : FrameMode) : Prop :=
  match dm with
  | none => rc = .no
  | some .ret => rc = .done ∧ u = .returning
  | some (.pan v) => ∃ x, CR ρ v x ∧ ((rc = .pend v ∧ u = .panicking [{ v := x, recovered := false }]) ∨ (rc = .done ∧ u = .panicking [{ v := x, recovered := true }]))
theorem RcR.mono {dm : Option Md} {ρ ρ' : Rho} (hs : ρ.sub ρ') {rc : Rc} {u : FrameMode} (h : RcR dm ρ rc u) : RcR dm ρ' rc u := by
  cases dm with
  | none => exact h
  | some m => cases m with
    | ret => exact h
    | pan v => obtain ⟨x, h1, h2⟩ := h; exact ⟨x, VR.mono hs h1, h2⟩
noncomputable def F.rc (fr : F) : Rc := F.rec (motive := fun _ => Rc) (fun _ rc => rc) fr

/-- A frame stands to the model's. -/
structure FrR (P : Program) (dm : Option Md) (keep N : Nat) (ρ : Rho) (l e : Env) (fr : F) (h : H) (a : Act) (u : FrameMode) (w : World) : Prop where
  hr : HR P ρ h w
  glob : GlobR ρ
  env : ER keep ρ l e a.tmps
  size : a.tmps.size = N
  ds : DsR ρ fr.ds a.defers
  rc : RcR dm ρ fr.rc u

/-- What a piece of code comes to. -/
def Post (P : Program) (rv : RV) (rh : H) (dm : Option Md) (keep N : Nat) (ρ : Rho) (h : H) (w : World) (kN : KE) (kX : Nat → KE) (kR : KE) (kP : KQ) : GQ
  | .normal, a, u, w' => ∃ e fr h' ρ', kN e fr h' = .ok rv rh ∧ FrR P dm keep N ρ' .nil e fr h' a u w' ∧ St ρ h w ρ' h' w'
  | .exit id, a, u, w' => ∃ e fr h' ρ', kX id e fr h' = .ok rv rh ∧ FrR P dm keep N ρ' .nil e fr h' a u w' ∧ St ρ h w ρ' h' w'
  | .ret, a, u, w' => ∃ e fr h' ρ', kR e fr h' = .ok rv rh ∧ FrR P dm keep N ρ' .nil e fr h' a u w' ∧ St ρ h w ρ' h' w'
  | .panic chain, a, u, w' => ∃ e fr c v h' ρ', chain = [{ v, recovered := false }] ∧ kP e fr c h' = .ok rv rh ∧ FrR P dm keep N ρ' .nil e fr h' a u w' ∧ St ρ h w ρ' h' w' ∧ CR ρ' c v
  | _, _, _, _ => False

theorem RR.undef (ρ : Rho) : RR ρ .u undef := .t _ _ .u
theorem RR.u_inv {ρ : Rho} {v : Value} (h : RR ρ .u v) : v = .tuple #[] := by
  cases h with
  | t _ vs e => cases e' : vs.toList with
    | nil => have : vs = #[] := by apply Array.ext'; simpa using e'
             rw [this]
    | cons x l => rw [e'] at e; cases e

/-- The temporary of an operation's guard is of the kind. -/
def GuardOf (T : Nat → Prop) (os : List Oper) (o : Oper) : Prop := ∀ j b oj d, o.guard = some (j, b) → os[j]? = some oj → oj.dst = some d → T d
theorem GuardOf.all (os : List Oper) (o : Oper) : GuardOf (fun _ => True) os o := fun _ _ _ _ _ _ _ => trivial
/-- Is an operation wanted? -/
theorem wantK_ok {q : Q} {T : Nat → Prop} {ρ : Rho} {l e : Env} {a : Act} {os : List Oper} {o : Oper} {k kn : RT} (he : ERT T q.keep ρ l e a.tmps) (hT : GuardOf T os o) (e1 : wantK q os l e o.guard k kn = .ok rv rh) :
    (Region.wanted o (yielded os.toArray a.tmps) = true ∧ k = .ok rv rh) ∨ (Region.wanted o (yielded os.toArray a.tmps) = false ∧ kn = .ok rv rh) := by
  unfold Region.wanted
  cases hg : o.guard with
  | none => rw [hg] at e1; exact .inl ⟨rfl, e1⟩
  | some p =>
    obtain ⟨j, want⟩ := p
    rw [hg] at e1
    obtain ⟨oj, hj, e2⟩ := onSome_ok (o := lget os j) e1
    obtain ⟨d, hd, e3⟩ := onSome_ok e2
    rw [lget_eq] at hj
    obtain ⟨x, e4, hx⟩ := tmpK_ok he (hT j want oj d hg hj hd) e3
    have hy : yielded os.toArray a.tmps j = (match a.tmps[d]? with | some (.bool b) => some b | _ => none) := by
      unfold yielded
      have : os.toArray[j]? = some oj := by simpa using hj
      rw [this]
      simp only [Option.bind_some, hd]
      cases a.tmps[d]? with
      | none => rfl
      | some v => cases v <;> rfl
    have hgd : a.tmps.getD d undef = (a.tmps[d]?).getD undef := by simp [Array.getD_eq_getD_getElem?]
    rw [hgd] at hx
    simp only [hy]
    cases x with
    | s c =>
      obtain ⟨b, rfl, e5⟩ := onBool_ok (c := c) e4
      have hb := hx.scalar.bool
      have ht : a.tmps[d]? = some (.bool b) := by
        cases h : a.tmps[d]? with
        | none => rw [h] at hb; cases hb
        | some v => rw [h] at hb; exact congrArg some hb
      rw [ht]
      rcases ifB_ok e5 with ⟨h1, e6⟩ | ⟨h1, e6⟩
      · refine .inl ⟨?_, e6⟩
        cases b <;> cases want <;> first | rfl | cases h1
      · refine .inr ⟨?_, e6⟩
        cases b <;> cases want <;> first | rfl | cases h1
    | u =>
      have hv := hx.u_inv
      refine .inr ⟨?_, e4⟩
      cases h : a.tmps[d]? with
      | none => rfl
      | some v => rw [h] at hv; simp at hv; subst hv; rfl
    | a c => cases e4
    | p x y => cases e4
/-- .. whatever follows. -/
theorem Env.getK_gives (n : Nat) : ∀ (e : Env), (∃ v, e.look n = some v ∧ ∀ k, e.getK n k = k v) ∨ ∃ s, ∀ k, e.getK n k = .err s
  | .nil => .inr ⟨_, fun _ => rfl⟩
  | .cons m v t => by
    have hunf : ∀ k, (Env.cons m v t).getK n k = ifB (Nat.beq m n) (k v) (t.getK n k) := fun _ => rfl
    by_cases hm : m = n
    · exact .inl ⟨v, by simp [Env.look, hm], fun k => by rw [hunf, beq_dec, ifB_dec, if_pos hm]⟩
    · rcases Env.getK_gives n t with ⟨v', h1, h2⟩ | ⟨s, h1⟩
      · exact .inl ⟨v', by simp [Env.look, hm, h1], fun k => by rw [hunf, beq_dec, ifB_dec, if_neg hm, h2]⟩
      · exact .inr ⟨s, fun k => by rw [hunf, beq_dec, ifB_dec, if_neg hm, h1]⟩
theorem wantK_gives (q : Q) (os : List Oper) (l e : Env) (g : Option (Nat × Bool)) : (∃ b : Bool, ∀ k kn, wantK q os l e g k kn = if b = true then k else kn) ∨ ∃ s, ∀ k kn, wantK q os l e g k kn = .err s := by
  cases g with
  | none => exact .inl ⟨true, fun k kn => rfl⟩
  | some p =>
    have hunf : ∀ k kn, wantK q os l e (some p) k kn = onSome (lget os p.1) "guard" fun o => onSome o.dst "guard" fun d => tmpK q l e d fun v => RV.rec (fun w => onBool w fun b => ifB (boolEq b p.2) k kn) (fun _ => .err "guard") kn (fun _ _ _ _ => .err "guard") v := fun _ _ => rfl
    cases h1 : lget os p.1 with
    | none => exact .inr ⟨_, fun k kn => by rw [hunf, h1]; rfl⟩
    | some oj =>
      cases h2 : oj.dst with
      | none => exact .inr ⟨_, fun k kn => by rw [hunf, h1]; show onSome oj.dst _ _ = _; rw [h2]; rfl⟩
      | some d =>
        have hunf2 : ∀ k kn, wantK q os l e (some p) k kn = tmpK q l e d fun v => RV.rec (fun w => onBool w fun b => ifB (boolEq b p.2) k kn) (fun _ => .err "guard") kn (fun _ _ _ _ => .err "guard") v := fun k kn => by
          rw [hunf, h1]; show onSome oj.dst _ _ = _; rw [h2]; rfl
        have ht : (∃ v, ∀ k, tmpK q l e d k = k v) ∨ ∃ s, ∀ k, tmpK q l e d k = .err s := by
          cases q with
          | mk cx call keep =>
          cases hk : kept keep d with
          | true =>
            have h3 : ∀ k, tmpK (.mk cx call keep) l e d k = e.getK d k := fun k => by show (Bool.rec (motive := fun _ => RT) (l.getK d k) (e.getK d k) (kept keep d) : RT) = _; rw [hk]
            rcases Env.getK_gives d e with ⟨v, _, h4⟩ | ⟨s, h4⟩
            · exact .inl ⟨v, fun k => by rw [h3, h4]⟩
            · exact .inr ⟨s, fun k => by rw [h3, h4]⟩
          | false =>
            have h3 : ∀ k, tmpK (.mk cx call keep) l e d k = l.getK d k := fun k => by show (Bool.rec (motive := fun _ => RT) (l.getK d k) (e.getK d k) (kept keep d) : RT) = _; rw [hk]
            rcases Env.getK_gives d l with ⟨v, _, h4⟩ | ⟨s, h4⟩
            · exact .inl ⟨v, fun k => by rw [h3, h4]⟩
            · exact .inr ⟨s, fun k => by rw [h3, h4]⟩
        rcases ht with ⟨v, h3⟩ | ⟨s, h3⟩
        · cases v with
          | u => exact .inl ⟨false, fun k kn => by rw [hunf2, h3]; rfl⟩
          | a c => exact .inr ⟨_, fun k kn => by rw [hunf2, h3]⟩
          | p x y => exact .inr ⟨_, fun k kn => by rw [hunf2, h3]⟩
          | s c =>
            cases c with
            | b x => exact .inl ⟨boolEq x p.2, fun k kn => by rw [hunf2, h3]; show ifB (boolEq x p.2) k kn = _; cases boolEq x p.2 <;> rfl⟩
            | _ => exact .inr ⟨_, fun k kn => by rw [hunf2, h3]; rfl⟩
        · exact .inr ⟨s, fun k kn => by rw [hunf2, h3]⟩
theorem wantK_val {q : Q} {T : Nat → Prop} {ρ : Rho} {l e : Env} {a : Act} {os : List Oper} {o : Oper} {b : Bool} (he : ERT T q.keep ρ l e a.tmps) (hT : GuardOf T os o) (hb : ∀ k kn, wantK q os l e o.guard k kn = if b = true then k else kn) :
    Region.wanted o (yielded os.toArray a.tmps) = b := by
  cases b with
  | true =>
    rcases wantK_ok (rv := .u) (rh := .mk .nil 0) he hT (hb (.ok .u (.mk .nil 0)) (.err "")) with ⟨h1, _⟩ | ⟨_, h2⟩
    · exact h1
    · cases h2
  | false =>
    rcases wantK_ok (rv := .u) (rh := .mk .nil 0) he hT (hb (.err "") (.ok .u (.mk .nil 0))) with ⟨_, h2⟩ | ⟨h1, _⟩
    · cases h2
    · exact h1

/-- A result is laid into its temporary. -/
theorem putK_gives (q : Q) (dst : Option Tmp) (l e : Env) (x : RV) : ∃ l' e', (∀ k, putK q dst l e x k = k l' e') ∧ ∀ t, cur q.keep l' e' t = if dst = some t then some x else cur q.keep l e t := by
  cases dst with
  | none => exact ⟨l, e, fun _ => rfl, fun t => by simp⟩
  | some d =>
    cases q with
    | mk cx call keep =>
    have hunf : ∀ k, putK (.mk cx call keep) (some d) l e x k = (Bool.rec (motive := fun _ => RT) (k (.cons d x l) e) (e.setK d x (k l)) (kept keep d) : RT) := fun _ => rfl
    cases hk : kept keep d with
    | false =>
      refine ⟨.cons d x l, e, fun k => by rw [hunf, hk], fun t => ?_⟩
      show cur keep _ _ t = if _ then _ else cur keep _ _ t
      unfold cur
      by_cases ht : d = t
      · subst ht; rw [if_neg (by rw [hk]; simp), if_pos rfl]; simp [Env.look]
      · rw [if_neg (show ¬ (some d = some t) by simpa using ht)]
        by_cases hkt : kept keep t = true
        · rw [if_pos hkt, if_pos hkt]
        · rw [if_neg hkt, if_neg hkt]; simp [Env.look, ht]
    | true =>
      obtain ⟨e', h1, h2⟩ := Env.setK_gives d x e
      refine ⟨l, e', fun k => by rw [hunf, hk]; exact h1 (k l), fun t => ?_⟩
      show cur keep _ _ t = if _ then _ else cur keep _ _ t
      unfold cur
      by_cases ht : d = t
      · subst ht; rw [if_pos hk, if_pos rfl, h2, if_pos rfl]
      · rw [if_neg (show ¬ (some d = some t) by simpa using ht)]
        by_cases hkt : kept keep t = true
        · rw [if_pos hkt, if_pos hkt, h2, if_neg ht]
        · rw [if_neg hkt, if_neg hkt]
theorem put_getD {a : Act} {dst : Option Tmp} (hd : ∀ d, dst = some d → d < a.tmps.size) (v : Value) (t : Nat) : (a.put dst v).tmps.getD t undef = if dst = some t then v else a.tmps.getD t undef := by
  cases dst with
  | none => simp [Act.put]
  | some d =>
    have hlt := hd d rfl
    simp only [Act.put, Array.getD_eq_getD_getElem?, Array.getElem?_setIfInBounds]
    by_cases h : d = t
    · subst h; simp [hlt]
    · simp [h]
theorem putK_ok {q : Q} {ρ : Rho} {l e : Env} {a : Act} {dst : Option Tmp} {x : RV} {v : Value} {k : Env → Env → RT} (he : ER q.keep ρ l e a.tmps) (hd : ∀ d, dst = some d → d < a.tmps.size) (hx : RR ρ x v) (e1 : putK q dst l e x k = .ok rv rh) :
    ∃ l' e', k l' e' = .ok rv rh ∧ ER q.keep ρ l' e' (a.put dst v).tmps := by
  obtain ⟨l', e', h1, h2⟩ := putK_gives q dst l e x
  refine ⟨l', e', (h1 k).symm.trans e1, fun t y _ hy => ?_⟩
  rw [put_getD hd]
  rw [h2] at hy
  by_cases ht : dst = some t
  · rw [if_pos ht] at hy ⊢; cases hy; exact hx
  · rw [if_neg ht] at hy ⊢; exact he t y trivial hy
theorem put_size (a : Act) (dst : Option Tmp) (v : Value) : (a.put dst v).tmps.size = a.tmps.size := by cases dst <;> simp [Act.put]
theorem put_defers (a : Act) (dst : Option Tmp) (v : Value) : (a.put dst v).defers = a.defers := by cases dst <;> rfl
end Go.Ev
end
section
/- Ev, soundness, part 41: a region in the text's order. Conditions: none. -/
namespace Go.Ev
set_option linter.unusedVariables false
variable {P : Program} {rv : RV} {rh : H}

/-- From what an operation comes to, to what follows it. -/
theorem upon_of_next {dm : Option Md} {q : Q} {N : Nat} {ρ ρ0 : Rho} {l e : Env} {fr : F} {h h0 : H} {a : Act} {u : FrameMode} {w w0 : World} {o : Oper} {kN : KE} {kX : Nat → KE} {kR : KE} {kP : KQ} {next : Act → World → Prop} {k : KL}
    (f : FrR P dm q.keep N ρ l e fr h a u w) (s0 : St ρ0 h0 w0 ρ h w) (hd : ∀ d, o.dst = some d → d < N)
    (hn : ∀ {l' e' : Env} {h' : H} {ρ' : Rho} {a' : Act} {w' : World}, k l' e' fr h' = .ok rv rh → FrR P dm q.keep N ρ' l' e' fr h' a' u w' → St ρ0 h0 w0 ρ' h' w' → next a' w') {res : Result Next}
    (hr : NextOk P rv rh ρ h w (fun v h => putK q o.dst l e v fun l e => k l e fr h) (fun v h => kP e fr v h) res) :
    o.upon P a next (fun ex a' w' => Post P rv rh dm q.keep N ρ0 h0 w0 kN kX kR kP ex a' u w') res := by
  have val : ∀ {x : RV} {v : Value} {h' : H} {ρ' : Rho} {w' : World}, (putK q o.dst l e x fun l e => k l e fr h') = .ok rv rh → HR P ρ' h' w' → St ρ h w ρ' h' w' → RR ρ' x v → next (a.put o.dst v) w' := fun {x v h' ρ' w'} e1 hr' hs hx => by
    obtain ⟨l', e', e2, he⟩ := putK_ok (f.env.mono hs.sub) (fun d h => by rw [f.size]; exact hd d h) hx e1
    exact hn e2 ⟨hr', f.glob.mono hs.sub, he, by rw [put_size]; exact f.size, by rw [put_defers]; exact f.ds.mono hs.sub, f.rc.mono hs.sub⟩ (s0.trans hs)
  have pan : ∀ {c : Ce} {v : Value} {h' : H} {ρ' : Rho} {w' : World}, kP e fr c h' = .ok rv rh → HR P ρ' h' w' → St ρ h w ρ' h' w' → CR ρ' c v → Post P rv rh dm q.keep N ρ0 h0 w0 kN kX kR kP (.panic [{ v, recovered := false }]) a u w' := fun {c v h' ρ' w'} e1 hr' hs hx =>
    ⟨e, fr, c, v, h', ρ', rfl, e1, ⟨hr', f.glob.mono hs.sub, (f.env.mono hs.sub).out, f.size, f.ds.mono hs.sub, f.rc.mono hs.sub⟩, s0.trans hs, hx⟩
  unfold NextOk at hr
  unfold Oper.upon
  split at hr
  · obtain ⟨x, h', ρ', e1, h1, h2, h3⟩ := hr
    exact val e1 h1 h2 h3
  · obtain ⟨h', ρ', e1, h1, h2⟩ := hr
    exact val e1 h1 h2 (RR.undef ρ')
  · refine Calls.mono hr fun en w' he => ?_
    cases en with
    | returned v => obtain ⟨x, h', ρ', e1, h1, h2, h3⟩ := he; exact val e1 h1 h2 h3
    | panicked ch => obtain ⟨c, v, h', ρ', rfl, e1, h1, h2, h3⟩ := he; exact pan e1 h1 h2 h3
    | outgrown => exact he.elim
  · obtain ⟨c, h', ρ', e1, h1, h2, h3⟩ := hr
    exact pan e1 h1 h2 h3
  · exact hr.elim

/-- An operation, wanted. -/
theorem op_ok {dm : Option Md} {q : Q} (hcx : CxOk P q.cx) (hfs : FieldsOk P) (hcall : CallOk P q.call) {N : Nat} {ρ ρ0 : Rho} {l e : Env} {fr : F} {h h0 : H} {a : Act} {u : FrameMode} {w w0 : World} {o : Oper} {kN : KE} {kX : Nat → KE} {kR : KE} {kP : KQ} {next : Act → FrameMode → World → Prop} {k : KL}
    (f : FrR P dm q.keep N ρ l e fr h a u w) (s0 : St ρ0 h0 w0 ρ h w) (hd : ∀ d, o.dst = some d → d < N)
    (hn : ∀ {l' e' : Env} {fr' : F} {h' : H} {ρ' : Rho} {a' : Act} {u' : FrameMode} {w' : World}, k l' e' fr' h' = .ok rv rh → FrR P dm q.keep N ρ' l' e' fr' h' a' u' w' → St ρ0 h0 w0 ρ' h' w' → next a' u' w')
    (e1 : exO o.op q l e fr h (fun v fr h => putK q o.dst l e v fun l e => k l e fr h) (fun v h => kP e fr v h) = .ok rv rh) :
    (dm.isSome = true ∧ ∃ w', (execOp a.eval o).run P w = .ok .recover w' ∧ match recU u with
      | some (v, u') => next (a.put o.dst v) u' w'
      | none => next (a.put o.dst .nilIface) u w') ∨
    o.upon P a (fun a' w' => next a' u w') (fun ex a' w' => Post P rv rh dm q.keep N ρ0 h0 w0 kN kX kR kP ex a' u w') ((execOp a.eval o).run P w) := by
  by_cases hdef : ∃ c, o.op = .defer c
  · obtain ⟨c, hop⟩ := hdef
    rw [hop] at e1
    obtain ⟨xs, e2, hxs⟩ := valsK_ok f.glob f.env (os := c.args.toList) (fun y _ => .all y) e1
    have harr : c.args.map a.eval = (c.args.toList.map a.eval).toArray := by apply Array.ext'; simp
    rcases c with ⟨callee, args, argTypes⟩
    cases callee with
    | invoke x n => cases e2
    | builtin b => cases e2
    | value x =>
      obtain ⟨xv, e3, hx⟩ := valK_ok f.glob f.env (o := x) (.all x) e2
      obtain ⟨cf, rfl, e4⟩ := onS_ok e3
      obtain ⟨fn, first, cap, rfl, e5⟩ := onFn_ok e4
      have hx' : VR ρ (.func fn first cap) (a.eval x) := hx.scalar
      have hxs' := hx.scalar
      generalize hv : a.eval x = v at hx' hxs'
      cases hx' with
      | fn _ _ _ first' cap' h1 h2 =>
      have hrun : (execOp a.eval o).run P w = .ok (.defer { target := .fn fn cap', args := first' ++ (args.toList.map a.eval).toArray }) w := by
        unfold execOp
        rw [hop]
        have harr' : args.map a.eval = (args.toList.map a.eval).toArray := harr
        simp only [resolve, hv, Deferred.ofValue, Sem.run_bind, Sem.run_pure, Result.andThen_ok, harr']
      rw [hrun]
      refine .inr ?_
      show next ({ a with defers := _ :: a.defers }.put o.dst undef) u w
      obtain ⟨l', e', e6, he⟩ := putK_ok (a := { a with defers := { target := .fn fn cap', args := first' ++ (args.toList.map a.eval).toArray } :: a.defers }) f.env (fun d h => by rw [f.size]; exact hd d h) (RR.undef ρ) e5
      refine hn e6 ⟨f.hr, f.glob, he, by rw [put_size]; exact f.size, ?_, ?_⟩ s0
      · rw [put_defers]
        have hfd := f.ds
        cases fr with
        | mk ds rc => exact .cons _ _ _ _ _ _ _ _ hxs' hxs hfd
      · have hrc := f.rc
        cases fr with
        | mk ds rc => exact hrc
  · by_cases hre : ∃ c b, o.op = .call c ∧ c.callee = .builtin b ∧ isRec b = true
    · obtain ⟨c, b, hop, hcal, hb⟩ := hre
      have hb' : b = .recover := by cases b <;> first | rfl | cases hb
      subst hb'
      rw [hop] at e1
      rcases c with ⟨callee, args, argTypes⟩
      simp only at hcal
      subst hcal
      have e2 : recE fr (fun v fr => (fun v fr h => putK q o.dst l e v fun l e => k l e fr h) (.s v) fr h) = .ok rv rh := e1
      have hrun : (execOp a.eval o).run P w = .ok .recover w := by
        unfold execOp
        rw [hop]
        rfl
      have hrc := f.rc
      have hds := f.ds
      cases fr with
      | mk ds rc =>
      have fin : ∀ {c : Ce} {v : Value} {u' : FrameMode}, CR ρ c v → RcR dm ρ .done u' → (putK q o.dst l e (.s c) fun l e => k l e (.mk ds .done) h) = .ok rv rh → next (a.put o.dst v) u' w := fun {c v u'} hc hu e3 => by
        obtain ⟨l', e', e4, he⟩ := putK_ok f.env (fun d h => by rw [f.size]; exact hd d h) (.s _ _ hc) e3
        exact hn e4 ⟨f.hr, f.glob, he, by rw [put_size]; exact f.size, by rw [put_defers]; exact hds, hu⟩ s0
      cases dm with
      | none =>
        have : rc = .no := hrc
        subst this; cases e2
      | some m =>
        refine .inl ⟨rfl, w, hrun, ?_⟩
        cases m with
        | ret =>
          obtain ⟨h1, h2⟩ := hrc
          have h1' : rc = .done := h1
          subst h1'; subst h2
          exact fin (c := .v .nilIface) (v := .nilIface) (VR.ni (ρ := ρ)) ⟨rfl, rfl⟩ e2
        | pan v =>
          obtain ⟨x, hx, h1 | h1⟩ := hrc
          · obtain ⟨h1, h2⟩ := h1
            have h1' : rc = .pend v := h1
            subst h1'; subst h2
            exact fin hx ⟨x, hx, .inr ⟨rfl, rfl⟩⟩ e2
          · obtain ⟨h1, h2⟩ := h1
            have h1' : rc = .done := h1
            subst h1'; subst h2
            exact fin (c := .v .nilIface) (v := .nilIface) (VR.ni (ρ := ρ)) ⟨x, hx, .inr ⟨rfl, rfl⟩⟩ e2
    · refine .inr (upon_of_next f s0 hd (fun h1 h2 h3 => hn h1 h2 h3) ?_)
      exact exO_ok hcx hfs hcall f.hr f.glob f.env (fun x _ => .all x) (fun c hc => hdef ⟨c, hc⟩) (fun c b h1 h2 => by
        cases hb : isRec b with
        | false => rfl
        | true => exact absurd ⟨c, b, h1, h2, hb⟩ hre) e1

/-- All operations of a region write to temporaries that are there. -/
def OpsFine (N : Nat) (os : List Oper) : Prop := ∀ o ∈ os, ∀ d, o.dst = some d → d < N

theorem opsK_ok {dm : Option Md} {q : Q} (hcx : CxOk P q.cx) (hfs : FieldsOk P) (hcall : CallOk P q.call) {N : Nat} {ops : Array Oper} (hops : OpsFine N ops.toList) {ρ0 : Rho} {h0 : H} {w0 : World} {kN : KE} {kX : Nat → KE} {kR : KE} {kP : KQ} :
    ∀ (ls : List Oper) (i : Nat), ops.toList.drop i = ls → ∀ {ρ : Rho} {l e : Env} {fr : F} {h : H} {a : Act} {u : FrameMode} {w : World}, FrR P dm q.keep N ρ l e fr h a u w → St ρ0 h0 w0 ρ h w → opsK ops.toList ls q l e fr h kN kP = .ok rv rh →
      GOps P dm.isSome ops (Post P rv rh dm q.keep N ρ0 h0 w0 kN kX kR kP) (List.range' i ls.length) a u w := by
  intro ls
  induction ls with
  | nil =>
    intro i _ ρ l e fr h a u w f s0 e1
    exact ⟨e, fr, h, ρ, e1, ⟨f.hr, f.glob, f.env.out, f.size, f.ds, f.rc⟩, s0⟩
  | cons o ls ih =>
    intro i hi ρ l e fr h a u w f s0 e1
    have ho : ops[i]? = some o := by
      have : ops.toList[i]? = some o := by
        have h1 : (ops.toList.drop i)[0]? = some o := by rw [hi]; rfl
        rwa [List.getElem?_drop, Nat.add_zero] at h1
      simpa using this
    have hi' : ops.toList.drop (i + 1) = ls := by
      rw [← List.drop_drop, hi]; rfl
    have hmem : o ∈ ops.toList := by
      have : ops.toList[i]? = some o := by simpa using ho
      exact List.mem_of_getElem? this
    have hdst := hops o hmem
    rw [List.length_cons, List.range'_succ]
    simp only [GOps, ho]
    have e2 : opK q ops.toList o l e fr h (fun l e fr h => opsK ops.toList ls q l e fr h kN kP) (fun v h => kP e fr v h) = .ok rv rh := e1
    rcases wantK_ok f.env (.all _ _) e2 with ⟨hw, e3⟩ | ⟨hw, e3⟩
    · have hw' : Region.wanted o (yielded ops a.tmps) = true := hw
      rw [if_pos hw']
      exact op_ok (next := fun a' u' w' => GOps P dm.isSome ops (Post P rv rh dm q.keep N ρ0 h0 w0 kN kX kR kP) (List.range' (i + 1) ls.length) a' u' w') hcx hfs hcall f s0 hdst (fun h1 h2 h3 => ih (i + 1) hi' h2 h3 h1) e3
    · have hw' : Region.wanted o (yielded ops a.tmps) = false := hw
      rw [if_neg (by rw [hw']; simp)]
      obtain ⟨l', e', e4, he⟩ := putK_ok f.env (fun d h => by rw [f.size]; exact hdst d h) (RR.undef ρ) e3
      exact ih (i + 1) hi' ⟨f.hr, f.glob, he, by rw [put_size]; exact f.size, by rw [put_defers]; exact f.ds, f.rc⟩ s0 e4

theorem regE_ok {dm : Option Md} {q : Q} (hcx : CxOk P q.cx) (hfs : FieldsOk P) (hcall : CallOk P q.call) {N id : Nat} {ops : Array Oper} (hops : OpsFine N ops.toList) {ρ : Rho} {e : Env} {fr : F} {h : H} {a : Act} {u : FrameMode} {w : World} {kN : KE} {kX : Nat → KE} {kR : KE} {kP : KQ}
    (f : FrR P dm q.keep N ρ .nil e fr h a u w) (e1 : regE ops.toList q e fr h kN kP = .ok rv rh) : GWp P dm.isSome (.region id ops false) (Post P rv rh dm q.keep N ρ h w kN kX kR kP) a u w := by
  refine GWp.region ?_
  have := opsK_ok (kX := kX) (kR := kR) hcx hfs hcall hops ops.toList 0 rfl f (St.refl _ _ _) e1
  rw [List.range_eq_range']
  simpa using this
end Go.Ev
end

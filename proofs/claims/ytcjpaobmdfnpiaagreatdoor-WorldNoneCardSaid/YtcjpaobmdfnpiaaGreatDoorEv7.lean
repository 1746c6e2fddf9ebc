/- An evaluator of programs by terms that the kernel reduces, and the laws that it tells the truth. Conditions: none. -/
import Derived.Below
import Derived.Maps.Own
import Derived.Laws.AppendOwn
import Derived.Test.YtcjpaobmdfnpiaaGreatDoorEv6
set_option linter.all false
section
/- Ev, soundness, part 61: the block of the loop that copies a map. Conditions: none. -/
namespace Go.Ev
set_option linter.unusedVariables false
variable {P : Program} {rv : RV} {rh : H}

theorem memN_iff (l : List Nat) (n : Nat) : memN l n = true ↔ n ∈ l := by
  induction l with
  | nil => exact ⟨fun h => (by cases h), fun h => (by cases h)⟩
  | cons x l ih =>
    have h1 : memN (x :: l) n = (Nat.beq x n || memN l n) := by show orB _ _ = _; cases Nat.beq x n <;> rfl
    rw [h1, Bool.or_eq_true, ih, List.mem_cons, Nat.beq_eq]
    exact ⟨fun h => h.imp (fun h => h.symm) id, fun h => h.imp (fun h => h.symm) id⟩
theorem noTs_look {ts : List Nat} : ∀ {e : Env}, noTs ts e = true → ∀ t, t ∈ ts → e.look t = none
  | .nil, _, t, _ => rfl
  | .cons m v e, h, t, ht => by
    have h' : ifB (memN ts m) false (noTs ts e) = true := h
    cases hm : memN ts m with
    | true => rw [hm] at h'; cases h'
    | false =>
      rw [hm] at h'
      have hne : m ≠ t := fun h => by rw [← h, ← memN_iff, hm] at ht; cases ht
      have := noTs_look h' t ht
      simp [Env.look, hne, this]

theorem HR.congr {ρ : Rho} {h h' : H} {w : World} (r : HR P ρ h w) (hn : h'.next = h.next) (ha : ∀ x, h'.at x = h.at x) : HR P ρ h' w := by
  refine ⟨r.glob, r.free, fun a x e => by rw [hn]; exact r.dom a x e, r.blk, fun a o e => r.obj a o (by rw [← ha]; exact e), fun a j e => ?_, fun a a' o o' x x' e1 e2 => r.inj a a' o o' x x' (by rw [← ha]; exact e1) (by rw [← ha]; exact e2)⟩
  obtain ⟨l, h1⟩ := r.mit a j (by rw [← ha]; exact e)
  exact ⟨l, by rw [ha]; exact h1⟩

theorem copyHook_ok (hmix : P.follows .mixedOrders = true) {it p t0 t1 t2 t3 t4 tb tk u0 u1 u2 u3 u4 u5 s f tm te : Nat} {o0 o1 o2 o3 o4 o5 o6 o7 o8 o9 o10 o11 o12 o13 o14 : Oper} (O : CopyOps it p t0 t1 t2 t3 t4 tb tk u0 u1 u2 u3 u4 u5 s f tm te o0 o1 o2 o3 o4 o5 o6 o7 o8 o9 o10 o11 o12 o13 o14)
    {id id2 r1 r2 r3 off sz : Nat} (T : CopyTy P s f off tm te sz) {dm : Option Md} {N : Nat} {b : B} (hb : b.hk = .copy id it p off sz [t0, t1, t2, t3, t4, tb, tk, u0, u1, u2, u3, u4, u5]) (hN : ∀ t ∈ [t0, t1, t2, t3, t4, tb, tk, u0, u1, u2, u3, u4, u5], t < N) (hkit : kept b.q.keep it = true) (hkp : kept b.q.keep p = true) :
    HookC P dm N b id (.loop (copyBody id id2 r1 r2 r3 t1 o0 o1 o2 o3 o4 o5 o6 o7 o8 o9 o10 o11 o12 o13 o14)) := by
  intro rv rh ρ e fr h a u w kN kX kR kP it' p' off' sz' ts' hk F e1
  rw [hb] at hk
  injection hk with q1 q2 q3 q4 q5 q6
  subst q2 q3 q4 q5 q6
  obtain ⟨hts, e2⟩ := ifB_t e1
  obtain ⟨vit, hlit, e3⟩ := Env.getK_ok e2
  obtain ⟨bh, bo, rfl, e4⟩ := onPlace_ok e3
  obtain ⟨hbo, e5⟩ := ifB_t e4
  have := Nat.eq_of_beq_eq_true hbo; subst this
  obtain ⟨ob, hob, e6⟩ := getK_ok e5
  obtain ⟨m, rfl, e7⟩ := oMiter_ok e6
  obtain ⟨om, hom, e8⟩ := getK_ok e7
  obtain ⟨l, rgm, rfl, e9⟩ := oMap_ok e8
  obtain ⟨hrgm, e10⟩ := ifB_e e9
  obtain ⟨hkv, e11⟩ := ifB_t e10
  rw [andB_eq, Bool.and_eq_true] at hkv
  obtain ⟨vp, hlp, e12⟩ := Env.getK_ok e11
  obtain ⟨pb', po, rfl, e13⟩ := onPlace_ok e12
  obtain ⟨op, hop, e14⟩ := getK_ok e13
  obtain ⟨c, el, exa, fz, rfl, e15⟩ := oCells_ok e14
  obtain ⟨vr, hvr, e16⟩ := onSome_ok e15
  obtain ⟨r0, rfl, e17⟩ := onMap_ok e16
  obtain ⟨r, rfl, e18⟩ := onSome_ok e17
  obtain ⟨hrm, e19⟩ := ifB_e e18
  obtain ⟨o2', ho2, e20⟩ := getK_ok e19
  obtain ⟨l2, rg2, rfl, e21⟩ := oMap_ok e20
  obtain ⟨hrg2, e22⟩ := ifB_t e21
  rw [andB_eq, Bool.and_eq_true] at hrg2
  have := Nat.eq_of_beq_eq_true hrg2.1; subst this
  have hrm' : r ≠ m := fun h => by rw [h, beq_dec] at hrm; simp at hrm
  have hrgm' : rgm = bh + 1 := by
    rw [beq_dec] at hrgm
    by_cases h : rgm = bh + 1
    · exact h
    · rw [show notB (decide (rgm = Nat.succ bh)) = true by simp [h]; rfl] at hrgm; cases hrgm
  subst hrgm'
  -- the blocks
  obtain ⟨bi, ib, ix, hbρ, hbor⟩ := F.hr.obj _ _ hob
  obtain ⟨bm, mb, mx, hmρ, hmor⟩ := F.hr.obj _ _ hom
  obtain ⟨br, rb, rx, hrρ, hror⟩ := F.hr.obj _ _ ho2
  obtain ⟨pb, pbase, px, hpρ, hpor⟩ := F.hr.obj _ _ hop
  obtain ⟨bm', x', y', z1, rfl, esz, clkz, z2, z3⟩ := hbor
  rw [hmρ] at z1; cases z1
  obtain ⟨es, clk, es', m1, m2, m3, m4, m5, m6, m7⟩ := hmor
  rw [m1] at z2
  injection z2 with z2; injection z2 with z4 z5; subst z4 z5
  have hbm_br : bm ≠ br := fun h => hrm' (F.hr.inj _ _ _ _ _ _ ho2 hom hrρ hmρ h.symm)
  have hbi_br : bi ≠ br := fun h => by have := F.hr.inj _ _ _ _ _ _ hob ho2 hbρ hrρ h; subst this; rw [hob] at ho2; cases ho2
  have hbi_bm : bi ≠ bm := fun h => by have := F.hr.inj _ _ _ _ _ _ hob hom hbρ hmρ h; subst this; rw [hob] at hom; cases hom
  have hbr' : bh ≠ r := fun h => by subst h; rw [hob] at ho2; cases ho2
  have hbm' : bh ≠ m := fun h => by subst h; rw [hob] at hom; cases hom
  have hints := keysOk_ok hkv.1
  have hints2 := keysOk_ok hrg2.2
  have hkl : l.keys.Nodup := by rw [m3.keys]; exact m4
  have hkl2 : l2.keys.Nodup := by
    obtain ⟨_, _, es2, _, _, k1, k2, _⟩ := hror
    rw [k1.keys]; exact k2
  obtain ⟨lf, hcopy, hfi, hfk, hfp⟩ := mCopy_gives l l2 hints hints2 hkl hkl2
  rw [hcopy] at e22
  obtain ⟨h1, hs1, hn1, ha1⟩ := setK_gives h r (.map lf 0)
  rw [hs1] at e22
  obtain ⟨h2, hs2, hn2, ha2⟩ := delK_gives h1 bh
  rw [hs2] at e22
  obtain ⟨h3, hs3, hn3, ha3⟩ := setK_gives h2 m (.map l 0)
  rw [hs3] at e22
  -- the heap that the loop begins with
  obtain ⟨g1, _, gn1, ga1⟩ := delK_gives h bh
  have nomit : ∀ c, c ≠ bh → h.at c ≠ some (.miter bh) := fun c hc hh => by
    obtain ⟨l5, h5⟩ := F.hr.mit c bh hh
    rw [hob] at h5; cases h5
  obtain ⟨R1, S1⟩ := del_sound F.hr gn1 ga1 nomit
  obtain ⟨g2, _, gn2, ga2⟩ := setK_gives g1 m (.map l 0)
  have onlyB : ∀ c, h.at c = some (.miter m) → c = bh := fun c hc => by
    obtain ⟨l5, h5⟩ := F.hr.mit c m hc
    rw [hom] at h5
    injection h5 with h5; injection h5 with _ h5; omega
  have hg1m : g1.at m = some (.map l (bh + 1)) := by rw [ga1, if_neg (Ne.symm hbm')]; exact hom
  obtain ⟨R2, S2⟩ := set_sound (w' := w) R1 hg1m hmρ gn2 ga2 rfl (fun _ _ => rfl) ⟨rfl, rfl, rfl⟩ (show OR P ρ w.heap (.map l 0) bm mb mx from ⟨es, clk, es', m1, m2, m3, m4, m5, m6, m7⟩) (fun _ _ _ _ _ _ => rfl)
    (fun c hcm hc => by
      rw [ga1] at hc
      by_cases hcb : c = bh
      · rw [if_pos hcb] at hc; cases hc
      · rw [if_neg hcb] at hc; exact absurd (onlyB c hc) hcb) (fun j hj => by cases hj)
  have hg2 : ∀ x, g2.at x = if x = m then some (.map l 0) else if x = bh then none else h.at x := fun x => by rw [ga2, ga1]
  have hF3 : ∀ x, h3.at x = if x = r then some (.map lf 0) else g2.at x := fun x => by
    rw [ha3, ha2, ha1, hg2]
    by_cases q1 : x = r
    · rw [if_pos q1, if_neg (fun h => hrm' (by rw [← q1, h])), if_neg (fun h => hbr' (by rw [← h, q1])), if_pos q1]
    · rw [if_neg q1, if_neg q1]
  have look_it : a.tmps.getD it undef = .pointer (some ⟨bi, 0, none⟩) := by
    have := F.env it _ trivial (show cur b.q.keep .nil e it = some _ by unfold cur; rw [if_pos hkit]; exact hlit)
    obtain ⟨b', base', ex', k1, k2⟩ := this.place
    rw [hbρ] at k1; cases k1
    simpa using k2
  have look_p : a.tmps.getD p undef = .pointer (some ⟨pb, pbase + po, none⟩) := by
    have := F.env p _ trivial (show cur b.q.keep .nil e p = some _ by unfold cur; rw [if_pos hkp]; exact hlp)
    obtain ⟨b', base', ex', k1, k2⟩ := this.place
    rw [hpρ] at k1; cases k1
    exact k2
  have hpbh : pb' ≠ bh := fun h => by subst h; rw [hob] at hop; cases hop
  have hpm : pb' ≠ m := fun h => by subst h; rw [hom] at hop; cases hop
  have hpr : pb' ≠ r := fun h => by subst h; rw [ho2] at hop; cases hop
  have X : CX P ρ [t0, t1, t2, t3, t4, tb, tk, u0, u1, u2, u3, u4, u5] it p pb po off sz bi bm br r m bh es clk es' l l2 g2 a := by
    refine ⟨look_it, ⟨pbase, px, c, el, exa, fz, pb', look_p, hpρ, by rw [hg2, if_neg hpm, if_neg hpbh]; exact hop, hpr, hvr⟩, ⟨rb, rx, hrρ⟩, ⟨0, ix, hbρ⟩, ⟨mb, mx, hmρ⟩, hbm_br, hbi_br, hbi_bm, fun x o y hx hy hyb => ?_, m2, m3, m4, m6, m7, hints, valsOk_ok hkv.2, fun c j hc hj => ?_⟩
    · rw [hg2] at hx
      by_cases hxm : x = m
      · subst hxm; rw [hmρ] at hy; cases hy; exact hbi_bm hyb.symm
      · rw [if_neg hxm] at hx
        by_cases hxb : x = bh
        · rw [if_pos hxb] at hx; cases hx
        · rw [if_neg hxb] at hx
          exact hxb (F.hr.inj x bh _ _ _ _ hx hob hy hbρ hyb)
    · subst hj
      have hc' : h.at c = some (.miter j) := by
        rw [hg2] at hc
        by_cases q1 : c = m
        · rw [if_pos q1] at hc; cases hc
        · rw [if_neg q1] at hc
          by_cases q2 : c = bh
          · rw [if_pos q2] at hc; cases hc
          · rwa [if_neg q2] at hc
      obtain ⟨l5, h5⟩ := F.hr.mit c j hc'
      rw [ho2] at h5; cases h5
  have hlt : ∀ t ∈ [t0, t1, t2, t3, t4, tb, tk, u0, u1, u2, u3, u4, u5], t < a.tmps.size := fun t ht => by rw [F.size]; exact hN t ht
  have noseen : ∀ v, ¬ seenK es' #[] v := fun v hv => by
    obtain ⟨e', _, _, h⟩ := hv
    simp at h
  have I0 : CI P ρ [t0, t1, t2, t3, t4, tb, tk, u0, u1, u2, u3, u4, u5] bi bm br r es clk es' l l2 g2 a w #[] a w := by
    refine ⟨rfl, rfl, fun _ _ => rfl, ⟨g2, l2, R2, rfl, fun x => ?_, hints2, fun x => ⟨fun hx => .inr ⟨hx, noseen _⟩, fun hx => hx.elim (fun hx => absurd hx.2 (noseen _)) (·.1)⟩⟩, ⟨clk, Nat.le_refl _, z3⟩, m1, fun _ _ _ _ => rfl, Nat.le_refl _, rfl, rfl, rfl⟩
    by_cases hx : x = r
    · rw [if_pos hx, hg2, if_neg (fun h => hrm' (by rw [← hx, h])), if_neg (fun h => hbr' (by rw [← h, hx])), hx]; exact ho2
    · rw [if_neg hx]
  refine .block (.loop (round_ok hmix O T X hlt _ #[] a w rfl I0 fun seen a' w' hall I => ?_))
  show if id = id then _ else _
  rw [if_pos rfl]
  -- the end
  obtain ⟨hc, lc, rc, cn, ca, ci, cp⟩ := I.hr
  have hsn : ∀ v, seenK es' seen v ↔ v ∈ l.keys := fun v => by
    rw [m3.keys, List.mem_map]
    constructor
    · rintro ⟨e', h1, h2, _⟩; exact ⟨e', h1, h2⟩
    · rintro ⟨e', h1, h2⟩; exact ⟨e', h1, h2, all_seen es seen hall e' (m2.mem_iff.1 h1)⟩
  obtain ⟨br', rb', rx', k1, k2⟩ := rc.obj r (.map lc 0) (by rw [ca, if_pos rfl])
  have k3 : OR P ρ w'.heap (.map lf 0) br' rb' rx' := by
    refine k2.same hfk fun x => ?_
    rw [hfp, cp, hsn]
    constructor
    · rintro (hx | hx)
      · exact .inl ⟨hx, mem_keys hx⟩
      · exact .inr hx
    · rintro (hx | hx)
      · exact .inl hx.1
      · exact .inr hx
  have hn3' : h3.next = hc.next := by rw [hn3, hn2, hn1, cn, gn2, gn1]
  have ha3' : ∀ x, h3.at x = if x = r then some (.map lf 0) else hc.at x := fun x => by
    rw [hF3, ca]
    by_cases hx : x = r
    · rw [if_pos hx, if_pos hx]
    · rw [if_neg hx, if_neg hx, if_neg hx]
  obtain ⟨R3, _⟩ := set_sound (w' := w') rc (by rw [ca, if_pos rfl] : hc.at r = some (.map lc 0)) k1 hn3' ha3' rfl (fun _ _ => rfl) ⟨rfl, rfl, rfl⟩ k3 (fun _ _ _ _ _ _ => rfl) (fun c hcr hc' => by
      rw [ca, if_neg hcr] at hc'
      exact absurd rfl (X.noMit c r hc')) (fun j hj => by cases hj)
  have hnext : h3.next = h.next := by rw [hn3, hn2, hn1]
  refine ⟨e, fr, h3, ρ, e22, ⟨R3, F.glob, fun t v ht hv => ?_, by rw [I.size]; exact F.size, ?_, F.rc⟩, ⟨Rho.sub.refl ρ, by rw [hnext]; exact Nat.le_refl _, fun _ _ h => .inl h, I.hsz, fun x hx hno => ?_, fun x o y hx hy _ => ?_, I.os, I.out, I.tape⟩⟩
  · have hv' := hv
    unfold cur at hv'
    by_cases hkt : kept b.q.keep t = true
    · rw [if_pos hkt] at hv'
      have hnt : t ∉ [t0, t1, t2, t3, t4, tb, tk, u0, u1, u2, u3, u4, u5] := fun h => by rw [noTs_look hts t h] at hv'; cases hv'
      rw [I.tmps t hnt]
      exact F.env t v ht hv
    · rw [if_neg hkt] at hv'; cases hv'
  · rw [I.defers]; exact F.ds
  · exact I.frame x hx (fun h => hno bh _ _ hob hbρ h.symm) (fun h => hno r _ _ ho2 hrρ h.symm)
  · have : ∃ o', h.at x = some o' := by
      rw [hF3] at hx
      by_cases q1 : x = r
      · exact ⟨_, by rw [q1]; exact ho2⟩
      · rw [if_neg q1, hg2] at hx
        by_cases q2 : x = m
        · exact ⟨_, by rw [q2]; exact hom⟩
        · rw [if_neg q2] at hx
          by_cases q3 : x = bh
          · rw [if_pos q3] at hx; cases hx
          · rw [if_neg q3] at hx; exact ⟨_, hx⟩
    obtain ⟨o', ho'⟩ := this
    exact ⟨x, o', y, ho', hy, rfl⟩
end Go.Ev
end
section
/- Ev, soundness, part 62: closed checks of the tables. Conditions: none. -/
namespace Go.Ev
set_option linter.unusedVariables false
variable {P : Program}

/-- What is asked of every entry of a trie, by a closed check. -/
noncomputable def trAllB {α : Type} (t : Tr α) : (Nat → α → Bool) → Bool :=
  Tr.rec (motive := fun _ => (Nat → α → Bool) → Bool) (fun _ => true)
    (fun _ v _ gl gr p => Option.rec (motive := fun _ => Bool) true (p 0) v && gl (fun n => p (2 * n + 1)) && gr (fun n => p (2 * n + 2))) t
theorem trAllB_ok {α : Type} : ∀ (t : Tr α) (p : Nat → α → Bool), trAllB t p = true → TrAll (fun n x => p n x = true) t := by
  intro t
  induction t with
  | nil => intro p _; exact .nil
  | node l v r hl hr =>
    intro p h
    have h' : (Option.rec (motive := fun _ => Bool) true (p 0) v && trAllB l (fun n => p (2 * n + 1)) && trAllB r (fun n => p (2 * n + 2))) = true := h
    rw [Bool.and_eq_true, Bool.and_eq_true] at h'
    refine .node (fun x hx => ?_) (hl _ h'.1.2) (hr _ h'.2)
    subst hx; exact h'.1.1

/-! ### types -/
/-- The scalars that stand in zero values. -/
def veqB : Value → Value → Bool
  | .pointer none, .pointer none => true
  | .slice none n m, .slice none i j => Nat.beq n i && Nat.beq m j
  | .map none, .map none => true
  | .chan none, .chan none => true
  | .nilFunc, .nilFunc => true
  | .nilIface, .nilIface => true
  | .int k n, .int j m => decide (k = j) && decide (n = m)
  | .bool a, .bool b => a == b
  | .string a, .string b => decide (a.data.toList = b.data.toList)
  | _, _ => false
theorem veqB_ok {v w : Value} (h : veqB v w = true) : v = w := by
  unfold veqB at h
  split at h
  all_goals first | rfl | (simp at h; done) | skip
  · simp at h; obtain ⟨rfl, rfl⟩ := h; rfl
  · simp at h; obtain ⟨rfl, rfl⟩ := h; rfl
  · simp at h; subst h; rfl
  · rename_i a b
    simp at h
    rcases a with ⟨⟨a⟩⟩; rcases b with ⟨⟨b⟩⟩
    simp at h; subst h; rfl
def vsB : List Ce → List Value → Bool
  | [], [] => true
  | c :: l, v :: m => veqB c.toV v && vsB l m
  | _, _ => false
theorem vsB_ok : ∀ {l : List Ce} {m : List Value}, vsB l m = true → m = l.map Ce.toV
  | [], [], _ => rfl
  | c :: l, v :: m, h => by
    simp only [vsB, Bool.and_eq_true] at h
    rw [List.map_cons, veqB_ok h.1, ← vsB_ok h.2]
  | [], _ :: _, h => by cases h
  | _ :: _, [], h => by cases h
def isAggB : Value → Bool
  | .agg _ => true
  | _ => false
noncomputable def zchk (P : Program) (t : Nat) (i : TypeInfo) (c : Cs) : Bool :=
  match i.zero, P.underlying t with
  | some z, some d => vsB c.toL z.cells.toList && Nat.beq c.toL.length i.size && (d.isRow == isAggB z)
  | _, _ => false
noncomputable def zeroB (P : Program) (cx : Cx) (t : Nat) (i : TypeInfo) : Bool :=
  (match zeroK cx 64 t (fun c => ifB (zchk P t i c) (.ok .u (.mk .nil 0)) (.pan (.b true) (.mk .nil 0))) with
    | .ok _ _ => true
    | .pan _ _ => false
    | .err _ => true) && (match i.zero with | some z => Nat.beq z.cells.size i.size | none => true) && Nat.blt t P.types.size
theorem zeroB_ok {cx : Cx} {t : Nat} {i : TypeInfo} (hi : P.info? t = some i) (h : zeroB P cx t i = true) {c : Cs} (hz : ∀ k, zeroK cx 64 t k = k c) :
    ∃ i z d, P.info? t = some i ∧ i.zero = some z ∧ z.cells.toList = c.l.map Ce.toV ∧ c.l.length = i.size ∧ P.underlying t = some d ∧ (d.isRow = true ↔ ∃ cs, z = .agg cs) := by
  unfold zeroB at h
  rw [hz, Bool.and_eq_true, Bool.and_eq_true] at h
  have h1 : zchk P t i c = true := by
    cases hc : zchk P t i c with
    | true => rfl
    | false => rw [hc] at h; exact absurd h.1.1 (by simp [ifB])
  unfold zchk at h1
  split at h1
  · rename_i z d hz1 hu
    rw [Bool.and_eq_true, Bool.and_eq_true] at h1
    refine ⟨i, z, d, hi, hz1, ?_, ?_, hu, ?_⟩
    · rw [← Cs.toL_eq]; exact vsB_ok h1.1.1
    · rw [← Cs.toL_eq]; exact Nat.eq_of_beq_eq_true h1.1.2
    · have := h1.2
      rw [beq_iff_eq] at this
      rw [this]
      cases z <;> simp [isAggB]
  · cases h1
theorem CxOk.of_check {fn : Tr Entry} {ty : Tr TypeInfo} {ls : List (Nat × Nat)} (hty : TrAll (fun n i => P.types[n]? = some i) ty) (hz : trAllB ty (zeroB P (.mk fn ty ls)) = true)
    (hl : ls.all (fun p => liesAt P P.depth p.1 1 0 p.2 1 && !(Nat.beq (P.cellsOf p.1) 0) && (P.info? p.2).isSome) = true) : CxOk P (.mk fn ty ls) := by
  have hz' := trAllB_ok _ _ hz
  have hsm : ∀ t i, ty.get t = some i → t < P.types.size := fun t i h => by
    have : zeroB P (.mk fn ty ls) t i = true := hz' t i h
    unfold zeroB at this
    rw [Bool.and_eq_true, Nat.blt_eq] at this
    exact this.2
  have hty' : ∀ t i, ty.get t = some i → P.info? t = some i := fun t i h => by
    unfold Tables.info?
    rw [if_pos (hsm t i h)]
    exact hty t i h
  refine ⟨hty', hsm, fun t c h => ?_, fun t i z h hzz => ?_, fun p hp => ?_⟩
  · cases hg : ty.get t with
    | none =>
      have := h fun _ => .ok .u (.mk .nil 0)
      have e : zeroK (.mk fn ty ls) 64 t (fun _ => .ok .u (.mk .nil 0)) = RT.err "no such type" := by
        show onSome (ty.get t) _ _ = _
        rw [hg]; rfl
      rw [e] at this; cases this
    | some i => exact zeroB_ok (hty' t i hg) (hz' t i hg) h
  · have : zeroB P (.mk fn ty ls) t i = true := hz' t i h
    unfold zeroB at this
    rw [Bool.and_eq_true, Bool.and_eq_true, hzz] at this
    exact Nat.eq_of_beq_eq_true this.1.2
  · have := List.all_eq_true.1 hl p hp
    rw [Bool.and_eq_true, Bool.and_eq_true] at this
    refine ⟨this.1.1, fun h => ?_, this.2⟩
    have h2 := this.1.2
    rw [h] at h2; cases h2
theorem FieldsOk.of_check (h : (P.types.toList.all fun i => match i.desc with | .struct fs => fs.toList.all fun f => Nat.blt f.type P.types.size | _ => true) = true) : FieldsOk P := by
  intro t i fs ht hd f hf
  have h1 := List.all_eq_true.1 h i (by simpa using Array.mem_of_getElem? ht)
  rw [hd] at h1
  have h2 := List.all_eq_true.1 h1 f hf
  simpa [Nat.blt_eq] using h2

/-! ### functions -/
/-- An entry of the tables is the program's. -/
def EntP (P : Program) (cx : Cx) (tb : Tb) (n : Nat) : Entry → Prop
  | .fn f hk keep dr rs => FnOk P cx n f (hkOf tb hk) keep dr rs
  | .ext j => ∀ {rv : RV} {rh : H} {ρ : Rho} {h : H} {w : World} {args : List RV} {vs : List Value} {k : KV} {kp : KP}, HR P ρ h w → RRs ρ args vs →
    ifB (Nat.blt j 100) (xOf j cx args h k) (lbOf (lbAt tb (j - 100)) cx args h k) = .ok rv rh → NextOk P rv rh ρ h w k kp ((callFunc n vs.toArray).run P w)
/-- (the same, as a word of its own) -/
structure EntOk (P : Program) (cx : Cx) (tb : Tb) (n : Nat) (e : Entry) : Prop where
  ok : EntP P cx tb n e
theorem EntOk.fn {cx : Cx} {tb : Tb} {n : Nat} {f : Func} {hk keep : Nat} {dr : Drs} {rs : Rs} {x : Hk} (hx : hkOf tb hk = x) (h : FnOk P cx n f x keep dr rs) : EntOk P cx tb n (.fn f hk keep dr rs) := ⟨by subst hx; exact h⟩
theorem TabOk.of_check {fn : Tr Entry} {ty : Tr TypeInfo} {ls : List (Nat × Nat)} {tb : Tb} (hcx : CxOk P (.mk fn ty ls)) (hfs : FieldsOk P) (hf : TrAll (EntOk P (.mk fn ty ls) tb) fn) : TabOk P (.mk fn ty ls) tb :=
  ⟨hcx, hfs, fun f fN hk keep dr rs h => (hf f _ h).ok, fun f j h => (hf f _ h).ok⟩
theorem leafP {α : Type} {p : α → Prop} {i : α} (h : p i) : ∀ x, some i = some x → p x := fun x e => by cases e; exact h
theorem noLeaf {α : Type} {p : α → Prop} : ∀ x, (none : Option α) = some x → p x := fun x e => by cases e
end Go.Ev
end
section
/- Ev, soundness, part 63: entries without a body. Conditions: none. -/
namespace Go.Ev
set_option linter.unusedVariables false
variable {P : Program} {cx : Cx} {tb : Tb} {f : Nat}

theorem xNone_ok {rv : RV} {rh : H} {ρ : Rho} {h : H} {w : World} {args : List RV} {vs : List Value} {k : KV} {m : Mark} (r : HR P ρ h w) (e : xNone cx args h k = .ok rv rh) :
    Made P rv rh ρ h w k ((fun _ : Array Value => (do mark m; pure Extern.Race.none_ : Sem Value)) vs.toArray) := by
  have e1 : k .u h = .ok rv rh := e
  refine .of_read r ⟨_, _, e1, RR.undef ρ, ?_⟩
  simp [Extern.Race.none_, undef]

theorem EntOk.ext {j : Nat} {x : XT} {e : Array Value → Sem Value} (he : ExtIs P f e) (hj : Nat.blt j 100 = true) (hx : xOf j = x)
    (h : ∀ {rv : RV} {rh : H} {ρ : Rho} {h : H} {w : World} {args : List RV} {vs : List Value} {k : KV}, HR P ρ h w → RRs ρ args vs → x cx args h k = .ok rv rh → Made P rv rh ρ h w k (e vs.toArray)) : EntOk P cx tb f (.ext j) := by
  refine ⟨fun {rv rh ρ h' w args vs k kp} r ha e1 => ?_⟩
  rw [hj] at e1
  have e2 : xOf j cx args h' k = .ok rv rh := e1
  rw [hx] at e2
  exact he.next (h r ha e2)
theorem EntOk.e1 (he : ExtIs P f (Extern.Atomic.update (Op.intArith .add) .i64 true)) : EntOk P cx tb f (.ext 1) := EntOk.ext (x := xAdd .i64) he rfl rfl fun r ha e => xAdd_ok r ha e
theorem EntOk.e2 (he : ExtIs P f (Extern.Atomic.loadT (.int .i64))) : EntOk P cx tb f (.ext 2) := EntOk.ext (x := xLoad .i64) he rfl rfl fun r ha e => xLoad_ok r ha e
theorem EntOk.e3 (he : ExtIs P f Extern.AbiNoEscape.same) : EntOk P cx tb f (.ext 3) := EntOk.ext (x := xSame) he rfl rfl fun r ha e => xSame_ok r ha e
theorem EntOk.e4 (he : ExtIs P f Extern.BytealgIndexByte.indexByte) : EntOk P cx tb f (.ext 4) := EntOk.ext (x := xIndexByte) he rfl rfl fun r ha e => xIndexByte_ok r ha e
theorem EntOk.e5 (he : ExtIs P f Extern.Atomic.storeT) : EntOk P cx tb f (.ext 5) := EntOk.ext (x := xStore) he rfl rfl fun r ha e => xStore_ok r ha e
theorem EntOk.e6 (he : ExtIs P f (Extern.Atomic.casT (.int .i32))) : EntOk P cx tb f (.ext 6) := EntOk.ext (x := xCas .i32) he rfl rfl fun r ha e => xCas_ok r ha e
theorem EntOk.e7 (he : ExtIs P f Extern.BytealgCount.count) : EntOk P cx tb f (.ext 7) := EntOk.ext (x := xCount) he rfl rfl fun r ha e => xCount_ok r ha e
theorem EntOk.e8 {m : Mark} (he : ExtIs P f (fun _ => do mark m; pure Extern.Race.none_)) : EntOk P cx tb f (.ext 8) := EntOk.ext (x := xNone) he rfl rfl fun {_ _ _ _ _ _ vs _} r ha e => xNone_ok (vs := vs) r e
theorem EntOk.e9 (he : ExtIs P f Extern.BytealgCompare.compare) : EntOk P cx tb f (.ext 9) := EntOk.ext (x := xCmp) he rfl rfl fun r ha e => xCmp_ok r ha e
theorem EntOk.e10 (he : IndexIs P f) : EntOk P cx tb f (.ext 10) := ⟨fun r ha e => xIndex_ok (cx := cx) he r ha e⟩
theorem EntOk.e11 (he : ExtIs P f (Extern.Atomic.update (Op.intArith .add) .i32 true)) : EntOk P cx tb f (.ext 11) := EntOk.ext (x := xAdd .i32) he rfl rfl fun r ha e => xAdd_ok r ha e
theorem EntOk.e12 (he : ExtIs P f (Extern.Atomic.loadT (.int .u32))) : EntOk P cx tb f (.ext 12) := EntOk.ext (x := xLoad .u32) he rfl rfl fun r ha e => xLoad_ok r ha e
theorem EntOk.e13 {m : Addr → Mark} (he : ExtIs P f (Extern.Race.marked m)) : EntOk P cx tb f (.ext 13) := EntOk.ext (x := xMark) he rfl rfl fun r ha e => xMark_ok r ha e
theorem EntOk.e101 {el : Nat} (hl : lbAt tb 1 = .noZero el) (he : NoZeroIs P f el) : EntOk P cx tb f (.ext 101) := by
  refine ⟨fun {rv rh ρ h' w args vs k kp} r ha e1 => ?_⟩
  have e2 : lbOf (lbAt tb 1) cx args h' k = .ok rv rh := e1
  rw [hl] at e2
  exact xNoZero_ok (cx := cx) he r ha e2
end Go.Ev
end
section
/- Ev, soundness, part 64: slices.Sorted over a map's keys. Conditions: none. -/
namespace Go.Ev
set_option linter.unusedVariables false
variable {P : Program} {rv : RV} {rh : H}

/-- A block that is there, and that no handle names, gets a handle. -/
theorem adopt_sound {ρ : Rho} {h h' : H} {w0 w : World} {o : HObj} {g ex : Nat} (r : HR P ρ h w) (s : St ρ h w0 ρ h w) (hn : h'.next = h.next + 1) (ha : ∀ m, h'.at m = if m = h.next then some o else h.at m)
    (hg : g < w.heap.size) (h0 : w0.heap.size ≤ g) (hnew : ∀ a x, ρ a = some x → x.1 ≠ g) (hfree : ¬ isFree g) (hor : OR P (ρ.put h.next (g, 0, ex)) w.heap o g 0 ex) (hno : ∀ j, o ≠ .miter j) :
    HR P (ρ.put h.next (g, 0, ex)) h' w ∧ St ρ h w0 (ρ.put h.next (g, 0, ex)) h' w := by
  have hsub := Rho.put_sub r.dom (g, 0, ex)
  have hcase : ∀ a x, ρ.put h.next (g, 0, ex) a = some x → (a = h.next ∧ x = (g, 0, ex)) ∨ (a ≠ h.next ∧ ρ a = some x) := fun a x e => by
    simp only [Rho.put] at e
    by_cases hc : a = h.next
    · rw [if_pos hc] at e; exact .inl ⟨hc, (Option.some.inj e).symm⟩
    · rw [if_neg hc] at e; exact .inr ⟨hc, e⟩
  have hat : ∀ j oj, h.at j = some oj → h'.at j = some oj := fun j oj e => by
    obtain ⟨b, base, ex', h1, _⟩ := r.obj j oj e
    have := r.dom j _ h1
    rw [ha, if_neg (by omega)]; exact e
  refine ⟨⟨r.glob.mono hsub, r.free.keep (fun _ _ => rfl) (fun a x e => (hcase a x e).elim (fun h => (by rw [h.2]; exact hfree)) (fun h => r.free.2 a x h.2)), fun a x e => ?_, fun a x e => ?_, fun a o' e => ?_, fun a j e => ?_, fun a a' o1 o2 x x' e1 e2 e3 e4 e5 => ?_⟩, ⟨hsub, by omega, fun a x e => (hcase a x e).elim (fun h => .inr (by omega)) (fun h => .inl h.2), s.size, s.frame, fun a o' x e1 e2 e3 => ?_, s.os, s.out, s.tape⟩⟩
  · rcases hcase a x e with ⟨h1, _⟩ | ⟨_, h2⟩
    · omega
    · have := r.dom a x h2; omega
  · rcases hcase a x e with ⟨_, h1⟩ | ⟨_, h2⟩
    · rw [h1]; exact hg
    · exact r.blk a x h2
  · rw [ha] at e
    by_cases hc : a = h.next
    · rw [if_pos hc] at e; cases e; exact ⟨_, _, _, by rw [hc]; exact ρ.put_same _ _, hor⟩
    · rw [if_neg hc] at e
      obtain ⟨b, base, ex', h1, h2⟩ := r.obj a o' e
      exact ⟨b, base, ex', hsub _ _ h1, h2.mono hsub⟩
  · rw [ha] at e
    by_cases hc : a = h.next
    · rw [if_pos hc] at e; cases e; exact absurd rfl (hno j)
    · rw [if_neg hc] at e
      obtain ⟨l, h1⟩ := r.mit a j e
      exact ⟨l, hat _ _ h1⟩
  · rw [ha] at e1 e2
    rcases hcase a x e3 with ⟨h1, h1'⟩ | ⟨h1, h1'⟩ <;> rcases hcase a' x' e4 with ⟨h2, h2'⟩ | ⟨h2, h2'⟩
    · rw [h1, h2]
    · rw [h1'] at e5; exact absurd e5.symm (hnew _ _ h2')
    · rw [h2'] at e5; exact absurd e5 (hnew _ _ h1')
    · rw [if_neg h1] at e1; rw [if_neg h2] at e2; exact r.inj a a' o1 o2 x x' e1 e2 h1' h2' e5
  · rcases hcase a x e2 with ⟨h1, h1'⟩ | ⟨h1, h1'⟩
    · rw [h1'] at e3; exact absurd e3 (by simp; omega)
    · rw [ha, if_neg h1] at e1; exact s.own a o' x e1 h1' e3
/-- A call that turns nothing below. -/
theorem below_sound {ρ : Rho} {h : H} {w w' : World} (r : HR P ρ h w) (hb : Go.RowKit.Below w.heap.size w w') : HR P ρ h w' ∧ St ρ h w ρ h w' :=
  ⟨r.grow hb.size fun b hb' _ => hb.block b hb', ⟨Rho.sub.refl ρ, Nat.le_refl _, fun _ _ h => .inl h, hb.size, fun b hb' _ => hb.block b hb', fun a o x h1 h2 _ => ⟨a, o, x, h1, h2, rfl⟩, hb.os, hb.output, hb.tape⟩⟩

/-! ### the keys, in order -/
theorem ltF_eq' (a b : Int) : ltF a b = decide (a < b) := by
  cases a with
  | ofNat x => cases b with
    | ofNat y =>
      show Nat.blt x y = _
      rw [blt_dec]; simp
    | negSucc y =>
      show false = _
      symm; rw [decide_eq_false_iff_not]
      have := Int.negSucc_lt_zero y
      have h0 : (0 : Int) ≤ Int.ofNat x := Int.natCast_nonneg x
      omega
  | negSucc x => cases b with
    | ofNat y =>
      show true = _
      symm; rw [decide_eq_true_iff]
      have := Int.negSucc_lt_zero x
      have h0 : (0 : Int) ≤ Int.ofNat y := Int.natCast_nonneg y
      omega
    | negSucc y =>
      show Nat.blt y x = _
      rw [blt_dec, Bool.eq_iff_iff, decide_eq_true_iff, decide_eq_true_iff]
      omega
theorem insI_cons (x y : Int) (t : List Int) : insI x (y :: t) = if x < y then x :: y :: t else y :: insI x t := by
  show ifB (ltF x y) (x :: y :: t) (y :: insI x t) = _
  rw [ltF_eq', ifB_dec']
where
  ifB_dec' {α : Type} (p : Prop) [Decidable p] (t e : α) : ifB (decide p) t e = if p then t else e := ifB_dec p t e
theorem insI_perm (x : Int) : ∀ l, (insI x l).Perm (x :: l)
  | [] => .refl _
  | y :: t => by
    rw [insI_cons]
    split
    · exact .refl _
    · exact ((insI_perm x t).cons y).trans (.swap x y t)
theorem insI_sorted (x : Int) : ∀ l : List Int, l.Pairwise (· ≤ ·) → (insI x l).Pairwise (· ≤ ·)
  | [], _ => .cons (fun _ h => by cases h) .nil
  | y :: t, h => by
    rw [insI_cons]
    cases h with
    | cons h1 h2 =>
    split
    · rename_i hlt
      refine .cons (fun z hz => ?_) (.cons h1 h2)
      rcases List.mem_cons.1 hz with rfl | hz
      · omega
      · have := h1 z hz; omega
    · rename_i hlt
      refine .cons (fun z hz => ?_) (insI_sorted x t h2)
      rcases List.mem_cons.1 ((insI_perm x t).mem_iff.1 hz) with rfl | hz
      · omega
      · exact h1 z hz
noncomputable def keysGo (m : ML) (k : List Int → RT) : List Int → RT := ML.rec (motive := fun _ => List Int → RT) k (fun key _ _ ih l => onInt key fun j n => ifB (andB (kindEq j .i64) (inI64 n)) (ih (insI n l)) eX) m
theorem keysGo_ok {k : List Int → RT} : ∀ (m : ML) (l : List Int), keysGo m k l = .ok rv rh → ∃ ks : List Int, m.keys = ks.map (Value.int .i64) ∧ (∀ x ∈ ks, inI64 x = true) ∧ ∃ l', k l' = .ok rv rh ∧ l'.Perm (ks ++ l) ∧ (l.Pairwise (· ≤ ·) → l'.Pairwise (· ≤ ·)) := by
  intro m
  induction m with
  | nil => intro l e; exact ⟨[], rfl, fun _ h => (by cases h), l, e, .refl _, id⟩
  | cons key v t ih =>
    intro l e
    obtain ⟨j, n, rfl, e1⟩ := onInt_ok (c := key) (k := fun j n => ifB (andB (kindEq j .i64) (inI64 n)) (keysGo t k (insI n l)) eX) e
    rcases ifB_ok e1 with ⟨hk, e2⟩ | ⟨_, e2⟩
    · rw [andB_eq, Bool.and_eq_true] at hk
      have := kindEq_spec hk.1; subst this
      obtain ⟨ks, h1, h2, l', h3, h4, h5⟩ := ih _ e2
      refine ⟨n :: ks, ?_, fun x hx => ?_, l', h3, ?_, fun hs => h5 (insI_sorted n l hs)⟩
      · show (Ce.i .i64 n).toV :: t.keys = _
        rw [h1]; rfl
      · rcases List.mem_cons.1 hx with rfl | hx
        · exact hk.2
        · exact h2 x hx
      · exact h4.trans (((insI_perm n l).append_left ks).trans List.perm_middle)
    · cases e2
theorem csIK_gives (l : List Int) : Gives (csIK l) (l.map (Ce.i .i64)) := by
  have key : ∀ (l : List Int) (c : Cs), c.good → Gives (fun k => List.rec (motive := fun _ => Cs → RT) k (fun x _ ih c => c.mkK (.rep 1 (.i .i64 x)) ih) l c) (c.l ++ l.map (Ce.i .i64)) := by
    intro l
    induction l with
    | nil => intro c hc; exact ⟨c, fun k => rfl, hc, by simp⟩
    | cons x t ih =>
      intro c hc
      obtain ⟨c', h1, h2, h3⟩ := Cs.mkK_gives hc (b := .rep 1 (.i .i64 x)) trivial
      obtain ⟨c2, g1, g2, g3⟩ := ih c' h2
      refine ⟨c2, fun k => ?_, g2, ?_⟩
      · show c.mkK (.rep 1 (.i .i64 x)) (fun c => List.rec (motive := fun _ => Cs → RT) k (fun x _ ih c => c.mkK (.rep 1 (.i .i64 x)) ih) t c) = _
        rw [h1]; exact g1 k
      · rw [g3, h3]; simp [Cs.l]
  have h := key l .nil trivial
  exact h

/-- slices.Sorted over maps.Keys' iterator, its elements' type, the iterator's function. -/
def SortedIs (P : Program) (f el fk : Nat) : Prop :=
  (∃ fn c, P.funcs[f]? = some fn ∧ (fn.name == "runtime.NumGoroutine") = false ∧ fn.body = some c) ∧ P.cellsOf el = 1 ∧
  ∀ (w : World) (bx b : Nat) (es : Array MapEntry) (clk : Nat) (ks : List Int), w.cell? ⟨bx, 0, none⟩ = some (.map (some b)) → w.heap[b]? = some (.map es clk) → Go.MapKept.Stamped es clk → es.toList.map (·.key) = ks.map (Value.int .i64) → (∀ k ∈ ks, inI64 k = true) → ks.length ≤ 12 →
    Calls P f #[.func (.func fk) #[] #[.pointer (some ⟨bx, 0, none⟩)]] w fun e w' => ∃ v ss, e = .returned v ∧ ss.Perm ks ∧ w'.ownsRow w.heap.size el 1 v ss.length ((ss.mergeSort fun x y => decide (x ≤ y)).map (Value.int .i64)) ∧ (v = .slice none 0 0 ↔ ss = []) ∧ Go.RowKit.Below w.heap.size w w'
theorem sort_eq {ss ks l : List Int} (h1 : ss.Perm ks) (h2 : l.Perm ks) (h3 : l.Pairwise (· ≤ ·)) : (ss.mergeSort fun x y => decide (x ≤ y)) = l := by
  have tr : ∀ a b c : Int, decide (a ≤ b) = true → decide (b ≤ c) = true → decide (a ≤ c) = true := fun a b c h1 h2 => by simp only [decide_eq_true_eq] at *; exact Int.le_trans h1 h2
  have to : ∀ a b : Int, (decide (a ≤ b) || decide (b ≤ a)) = true := fun a b => by simp only [Bool.or_eq_true, decide_eq_true_eq]; exact Int.le_total a b
  refine List.Perm.eq_of_pairwise (le := fun a b : Int => a ≤ b) (fun a b _ _ h1 h2 => Int.le_antisymm h1 h2) ?_ h3 (((List.mergeSort_perm ss _).trans h1).trans h2.symm)
  exact (List.pairwise_mergeSort tr to ss).imp fun {a b} h => by simpa using h

theorem xSorted_ok {el fk f : Nat} {cx : Cx} {ρ : Rho} {h : H} {w : World} {args : List RV} {vs : List Value} {k : KV} {kp : KP} (hf : SortedIs P f el fk) (r : HR P ρ h w) (ha : RRs ρ args vs) (e : xSorted el fk cx args h k = .ok rv rh) : NextOk P rv rh ρ h w k kp ((callFunc f vs.toArray).run P w) := by
  obtain ⟨⟨fn0, c0, q1, q2, q3⟩, hco, hcall⟩ := hf
  rw [run_callFunc_body q1 q2 q3]
  obtain ⟨c, v, rfl, hc, e1⟩ := args1_ok ha e
  obtain ⟨fn, first, cap, rfl, e2⟩ := onFn_ok e1
  have hc' : VR ρ (.func fn first cap) v := hc
  cases hc' with
  | fn _ _ _ first' cap' g1 g2 =>
  cases fn with
  | func g =>
    have e3 : ifB (Nat.beq g fk) (List.rec (motive := fun _ => RT) (List.rec (motive := fun _ => RT) eX (fun v t _ => List.rec (motive := fun _ => RT) (toCeK v fun v => place v fun b o => ifB (Nat.beq o 0) (h.getK b fun ob => oCells ob fun c _ ex _ => ifB ex (onSome (c.get 0) "no such cell" fun v => onMap v fun r => onSome r "nil map" fun r => h.getK r fun om => oMap om fun m _ => keysI m fun l =>
  ifB (Nat.ble (llen l) 12) (List.rec (motive := fun _ => RT) (k (.s (.v (.slice none 0 0))) h) (fun _ _ _ => csIK l fun c => natK (llen l) fun n => h.newK (.cells c el false 0) fun b h => k (.s (.sl b 0 n n)) h) l) (.err "Sorted: too many")) eX) eX) (fun _ _ _ => eX) t) cap.toList) (fun _ _ _ => eX) first.toList) eX = .ok rv rh := e2
    rcases ifB_ok e3 with ⟨hg, e4⟩ | ⟨_, e4⟩
    · have := Nat.eq_of_beq_eq_true hg; subst this
      rcases first with ⟨first⟩; rcases cap with ⟨cap⟩; rcases first' with ⟨first'⟩; rcases cap' with ⟨cap'⟩
      cases first with
      | cons _ _ => cases e4
      | nil =>
      cases cap with
      | nil => cases e4
      | cons u t =>
      cases t with
      | cons _ _ => cases e4
      | nil =>
      cases g1
      cases g2 with
      | cons _ u' _ l' hu hl =>
      cases hl
      obtain ⟨c1, e5, hc1⟩ := toCeK_ok hu e4
      obtain ⟨bh, o, rfl, e6⟩ := place_ok e5
      obtain ⟨ho, e7⟩ | ⟨_, e7⟩ := ifB_ok e6
      · have := Nat.eq_of_beq_eq_true ho; subst this
        obtain ⟨ob, hob, e8⟩ := getK_ok e7
        obtain ⟨cs, te, ex, fz, rfl, e9⟩ := oCells_ok e8
        obtain ⟨hex, e10⟩ | ⟨_, e10⟩ := ifB_ok e9
        · subst hex
          obtain ⟨c2, hc2, e11⟩ := onSome_ok e10
          obtain ⟨r1, rfl, e12⟩ := onMap_ok e11
          obtain ⟨mh, rfl, e13⟩ := onSome_ok e12
          obtain ⟨om, hom, e14⟩ := getK_ok e13
          obtain ⟨m, rg, rfl, e15⟩ := oMap_ok e14
          obtain ⟨ks, hks, hin, l, e16, hperm, hsort⟩ := keysGo_ok (k := fun l => ifB (Nat.ble (llen l) 12) (List.rec (motive := fun _ => RT) (k (.s (.v (.slice none 0 0))) h) (fun _ _ _ => csIK l fun c => natK (llen l) fun n => h.newK (.cells c el false 0) fun b h => k (.s (.sl b 0 n n)) h) l) (.err "Sorted: too many")) m [] e15
          obtain ⟨h12, e17⟩ := ifB_t e16
          rw [List.append_nil] at hperm
          have hl12 : l.length ≤ 12 := by
            have : llen l = l.length := llen_eq l
            rw [this, Nat.ble_eq] at h12; exact h12
          -- the blocks
          obtain ⟨bx, base, ex, hρ, rfl⟩ := (RR.s _ _ hc1).place
          obtain ⟨b', base', ex', z1, hg1, arr, lo, hi, hb, hcc, hexx, _⟩ := r.obj _ _ hob
          rw [hρ] at z1; cases z1
          obtain ⟨hx0, hbase, _⟩ := hexx rfl
          subst hbase
          rw [Cs.get_eq hg1] at hc2
          obtain ⟨vm, hvm, hcm⟩ := hcc 0 _ hc2
          have hcm' : VR ρ (.map (some mh)) vm := hcm
          cases hcm' with
          | m _ b mb mx hm =>
          obtain ⟨b2, _, _, z2, hor⟩ := r.obj _ _ hom
          rw [hm] at z2; cases z2
          obtain ⟨es, clk, es', m1, m2, m3, m4, m5, m6, m7⟩ := hor
          have hkeys : es'.map (·.key) = ks.map (Value.int .i64) := by rw [← m3.keys]; exact hks
          obtain ⟨ks2, hk2, hp2⟩ : ∃ ks2 : List Int, es.toList.map (·.key) = ks2.map (Value.int .i64) ∧ ks2.Perm ks := by
            have hpm : (es'.map (·.key)).Perm (es.toList.map (·.key)) := m2.map _
            rw [hkeys] at hpm
            refine ⟨(es.toList.map (·.key)).map fun v => match v with | .int _ n => n | _ => 0, ?_, ?_⟩
            · rw [List.map_map]
              symm
              refine (List.map_congr_left (g := id) fun v hv => ?_).trans (List.map_id _)
              obtain ⟨n, _, rfl⟩ := List.mem_map.1 (hpm.mem_iff.2 hv)
              rfl
            · refine (hpm.symm.map _).trans ?_
              rw [List.map_map]
              exact List.Perm.of_eq (List.map_id _)
          have hst : Go.MapKept.Stamped es clk := ⟨fun x hx => m6 x (m2.mem_iff.2 hx), (m2.map _).nodup_iff.1 m7, (m2.map _).nodup_iff.1 m4⟩
          have hcell : w.cell? ⟨bx, 0, none⟩ = some (.map (some b)) := by
            have hvm' : arr[0]? = some (.map (some b)) := by simpa using hvm
            simp [World.cell?, hb, hvm']
          have hargs : ([Value.func (.func g) ⟨[]⟩ ⟨[.pointer (some ⟨bx, 0 + 0, none⟩)]⟩] : List Value).toArray = #[.func (.func g) #[] #[.pointer (some ⟨bx, 0, none⟩)]] := rfl
          rw [hargs]
          refine Calls.mono (hcall w bx b es clk ks2 hcell m1 hst hk2 (fun x hx => hin x (hp2.mem_iff.1 hx)) (by rw [hp2.length_eq, ← hperm.length_eq]; exact hl12)) fun en w' he => ?_
          obtain ⟨v, ss, rfl, hss, hown, hnil, hbel⟩ := he
          have hms := sort_eq (hss.trans hp2) hperm (hsort .nil)
          rw [hms] at hown
          obtain ⟨R, S⟩ := below_sound r hbel
          have hlen : ss.length = l.length := (hss.trans (hp2.trans hperm.symm)).length_eq
          cases hl : l with
          | nil =>
            rw [hl] at e17 hlen
            have hv : v = .slice none 0 0 := hnil.2 (List.eq_nil_of_length_eq_zero hlen)
            subst hv
            exact ⟨_, h, ρ, e17, R, S, .s _ _ (VR.ns 0 0)⟩
          | cons x t =>

            have e18 : csIK l (fun c => natK (llen l) fun n => h.newK (.cells c el false 0) fun b h => k (.s (.sl b 0 n n)) h) = .ok rv rh := by
              have := e17
              rw [hl] at this ⊢
              exact this
            obtain ⟨c', hk', hgc, hcl⟩ := csIK_gives l
            rw [hk', natK_eq] at e18
            obtain ⟨h', hk3, hn3, ha3⟩ := newK_gives h (.cells c' el false 0)
            rw [hk3] at e18
            have hll : llen l = l.length := llen_eq l
            rw [hll] at e18
            have hne : v ≠ .slice none 0 0 := fun hv => by
              have := hnil.1 hv
              rw [this, hl] at hlen; cases hlen
            obtain ⟨hx1, hx2⟩ := hown
            rcases hx2 with ⟨hv, _⟩ | ⟨g0, cap0, cur, rfl, hg0, hgh, hcap, _, hsz, htake⟩
            · exact absurd hv hne
            · have hgs : g0 < w'.heap.size := (Array.getElem?_eq_some_iff.1 hgh).1
              rw [hlen] at hcap htake ⊢
              obtain ⟨R2, S2⟩ := adopt_sound (w0 := w) (o := .cells c' el false 0) (ex := cap0 - l.length) R S hn3 ha3 hgs hg0 (fun a x hx hh => by have := r.blk a x hx; omega) (fun hh => by have := r.free.lt hh; omega)
                ⟨hgc, cur, 0, 0, hgh, fun i v hi => by
                  rw [hcl] at hi
                  obtain ⟨n, hn, rfl⟩ := by simpa using hi
                  refine ⟨.int .i64 n, ?_, VR.int _ _⟩
                  have hlt : i < l.length := (List.getElem?_eq_some_iff.1 hn).1
                  have h3 : (cur.toList.take (l.length * 1))[i]? = (l.map (Value.int .i64))[i]? := by rw [htake]
                  rw [List.getElem?_take, if_pos (by omega), List.getElem?_map, hn] at h3
                  simpa using h3, fun hh => (by cases hh), by rw [hcl, hco]; simp; omega, Fz.new _ _ _⟩ (fun j hh => by cases hh)
              refine ⟨_, h', _, e18, R2, S2, .s _ _ ?_⟩
              have h4 := VR.sl (ρ := ρ.put h.next (g0, 0, cap0 - l.length)) h.next 0 l.length l.length g0 0 (cap0 - l.length) (ρ.put_same _ _)
              rw [show l.length + (cap0 - l.length) = cap0 by omega] at h4
              simpa [CR, Ce.toV, oneV] using h4
        · cases e10
      · cases e7
    · cases e4
  | _ => cases e2
theorem EntOk.e102 {cx : Cx} {tb : Tb} {f el fk : Nat} (hl : lbAt tb 2 = .sorted el fk) (he : SortedIs P f el fk) : EntOk P cx tb f (.ext 102) := by
  refine ⟨fun {rv rh ρ h' w args vs k kp} r ha e1 => ?_⟩
  have e2 : lbOf (lbAt tb 2) cx args h' k = .ok rv rh := e1
  rw [hl] at e2
  exact xSorted_ok (cx := cx) he r ha e2
end Go.Ev
end
section
/- Ev, soundness, part 65: slices.Insert. Conditions: none. -/
namespace Go.Ev
set_option linter.unusedVariables false
variable {P : Program} {rv : RV} {rh : H}

/-- slices.Insert at elements of so many cells. -/
structure InsertIs (P : Program) (f st el size : Nat) : Prop where
  body : ∃ fn c, P.funcs[f]? = some fn ∧ (fn.name == "runtime.NumGoroutine") = false ∧ fn.body = some c
  und : P.underlying st = some (.slice el)
  noInt : NoInt P #[st, st]
  cells : P.cellsOf el = size
  pos : 0 < size
  fin : ∀ (base : Option Addr) (n c vb voff m vc : Nat) (w w1 : World) (r : Value), 0 < m → n ≤ c → (base = none → n = 0) → (∀ ty, (Builtin.append_ #[st, st] ty #[.slice base n c, .slice (some ⟨vb, voff, none⟩) m vc]).run P w = .ok r w1) →
    Calls P f #[.slice base n c, .int .i64 n, .slice (some ⟨vb, voff, none⟩) m vc] w fun e w' => e = .returned r ∧ w' = w1
  shift : ∀ (b off n c i vb voff m vc : Nat) (cs vs : List Value) (w : World), i < n → 0 < m → n + m ≤ c → n + m ≤ 1000000 → vb ≠ b → cs.length = n * size → vs.length = m * size →
    (∀ j v, cs[j]? = some v → w.cell? ⟨b, off + j, none⟩ = some v) → (∀ j, j < (n + m) * size → (w.cell? ⟨b, off + j, none⟩).isSome = true) → (∀ j, j < (n + m) * size → w.frozen? ⟨b, off + j, none⟩ = false) →
    (∀ j v, vs[j]? = some v → w.cell? ⟨vb, voff + j, none⟩ = some v) → (∀ v ∈ cs, v.oneCell' = true) → (∀ v ∈ vs, v.oneCell' = true) →
    ∀ (tA tB : TypeId) (kA kB : Nat), w.shape? vb = some (tA, kA) → w.shape? b = some (tB, kB) → kB ≠ 0 → w.frozen? ⟨vb, voff, none⟩ = false → w.frozen? ⟨vb, kA, none⟩ = false →
    Calls P f #[.slice (some ⟨b, off, none⟩) n c, .int .i64 i, .slice (some ⟨vb, voff, none⟩) m vc] w fun e w' =>
      e = .returned (.slice (some ⟨b, off, none⟩) (n + m) c) ∧ w' = (w.drew.setCells b (off + (i + m) * size) (cs.drop (i * size))).setCells b (off + i * size) vs
  grow : ∀ (b off n c i vb voff m vc : Nat) (cs vs : List Value) (w : World), i < n → 0 < m → n ≤ c → c < n + m → n + m ≤ 1000000 → cs.length = n * size → vs.length = m * size →
    (∀ j v, cs[j]? = some v → w.cell? ⟨b, off + j, none⟩ = some v) → (∀ j v, vs[j]? = some v → w.cell? ⟨vb, voff + j, none⟩ = some v) → (∀ v ∈ cs, v.oneCell' = true) → (∀ v ∈ vs, v.oneCell' = true) →
    Calls P f #[.slice (some ⟨b, off, none⟩) n c, .int .i64 i, .slice (some ⟨vb, voff, none⟩) m vc] w fun e w' =>
      ∃ (row : Array Value) (G : Nat), e = .returned (.slice (some ⟨w.heap.size, 0, none⟩) (n + m) G) ∧ n + m ≤ G ∧ row.size = G * size ∧ (∀ (j : Nat) (v : Value), (cs.take (i * size))[j]? = some v → row[j]? = some v) ∧
      w' = (((w.alloc (.cells row el)).drew.setCells w.heap.size (i * size) vs).drew).setCells w.heap.size ((i + m) * size) (cs.drop (i * size))

/-- The cells of a row into which others are laid. -/
theorem ins_cells {ρ : Rho} {cs vs : List Value} {c1 c2 xs : List Ce} {i n m size : Nat} (h1 : CRs ρ c1 (cs.take (i * size))) (h2 : CRs ρ c2 (cs.drop (i * size))) (hx : CRs ρ xs vs) {f : Nat → Option Value} (hi : i ≤ n) (hcl : cs.length = n * size) (hvl : vs.length = m * size)
    (f1 : ∀ j v, j < i * size → (cs.take (i * size))[j]? = some v → f j = some v) (f2 : ∀ j v, vs[j]? = some v → f (i * size + j) = some v) (f3 : ∀ j v, (cs.drop (i * size))[j]? = some v → f ((i + m) * size + j) = some v) :
    ∀ (j : Nat) (v : Ce), (c1 ++ xs ++ c2)[j]? = some v → ∃ v', f j = some v' ∧ CR ρ v v' := by
  intro j v hj
  have l1 : c1.length = i * size := by
    have := VRs.length h1
    simp only [List.length_map, List.length_take, hcl] at this
    have h := Nat.mul_le_mul_right size hi
    omega
  have l2 : xs.length = m * size := by have := VRs.length hx; simp only [List.length_map] at this; omega
  rw [List.append_assoc] at hj
  by_cases a : j < i * size
  · rw [List.getElem?_append_left (by omega)] at hj
    obtain ⟨v', q1, q2⟩ := VRs.get h1 j v.toV (by simp [hj])
    exact ⟨v', f1 j v' a q1, q2⟩
  · rw [List.getElem?_append_right (by omega), l1] at hj
    by_cases b : j - i * size < m * size
    · rw [List.getElem?_append_left (by omega)] at hj
      obtain ⟨v', q1, q2⟩ := VRs.get hx (j - i * size) v.toV (by simp [hj])
      refine ⟨v', ?_, q2⟩
      have := f2 _ v' q1
      rwa [show i * size + (j - i * size) = j by omega] at this
    · rw [List.getElem?_append_right (by omega), l2] at hj
      obtain ⟨v', q1, q2⟩ := VRs.get h2 (j - i * size - m * size) v.toV (by simp [hj])
      refine ⟨v', ?_, q2⟩
      have := f3 _ v' q1
      rw [Nat.add_mul] at this
      rwa [show i * size + m * size + (j - i * size - m * size) = j by omega] at this

theorem insert_parts {ρ : Rho} {l : List Ce} {cs : List Value} {o n i size : Nat} (h : CRs ρ ((l.drop o).take (n * size)) cs) (hcl : cs.length = n * size) (hi : i ≤ n) :
    CRs ρ ((l.drop o).take (i * size)) (cs.take (i * size)) ∧ CRs ρ ((l.drop (o + i * size)).take ((n - i) * size)) (cs.drop (i * size)) := by
  have hle : i * size ≤ n * size := Nat.mul_le_mul_right _ hi
  have hsub : (n - i) * size = n * size - i * size := Nat.sub_mul _ _ _
  have a := CRs.sub h 0 (i * size)
  have b := CRs.sub h (i * size) ((n - i) * size)
  rw [List.drop_zero, List.drop_zero, List.take_take, Nat.min_eq_left hle] at a
  refine ⟨a, ?_⟩
  rw [List.drop_take, List.drop_drop, List.take_take, ← hsub, Nat.min_self] at b
  rwa [List.take_of_length_le (l := cs.drop (i * size)) (by rw [List.length_drop, hcl, hsub]; exact Nat.le_refl _)] at b

set_option maxHeartbeats 4000000 in
theorem xInsert_ok {st size el f : Nat} {cx : Cx} (hcx : CxOk P cx) {ρ : Rho} {h : H} {w : World} {args : List RV} {vs : List Value} {k : KV} {kp : KP} (hf : InsertIs P f st el size) (r : HR P ρ h w) (ha : RRs ρ args vs) (e : xInsert st size el cx args h k = .ok rv rh) : NextOk P rv rh ρ h w k kp ((callFunc f vs.toArray).run P w) := by
  obtain ⟨fn0, c0, q1, q2, q3⟩ := hf.body
  rw [run_callFunc_body q1 q2 q3]
  obtain ⟨sc, ic, vc, sv, iv, vv, rfl, hs, hi, hv, e1⟩ := args3_ok ha e
  obtain ⟨ik, i0, rfl, e2⟩ := onInt_ok e1
  obtain ⟨hk, e3⟩ | ⟨_, e3⟩ := ifB_ok e2
  · have := kindEq_spec hk; subst this
    obtain ⟨i, rfl, e4⟩ := iabs_ok e3
    have := hi.int; subst this
    obtain ⟨_, _, _, e5⟩ | ⟨bv, ov, m, cv, rfl, e5⟩ := onSl_ok e4
    · cases e5
    · obtain ⟨vb, vbase, vex, hρv, rfl⟩ := hv.sl
      obtain ⟨_, e6⟩ | ⟨hm0, e6⟩ := ifB_ok e5
      · cases e6
      · have hm : 0 < m := by
          rcases Nat.eq_zero_or_pos m with h0 | h0
          · subst h0; cases hm0
          · exact h0
        have app : ∀ {base : Option Addr} {n c : Nat}, CR ρ sc (.slice base n c) → n ≤ c → (base = none → n = 0) → (appendE cx st sc (.sl bv ov m cv) h fun v => k (.s v)) = .ok rv rh →
            Calls P f ([Value.slice base n c, .int .i64 (Int.ofNat n), .slice (some ⟨vb, vbase + ov, none⟩) m (cv + vex)] : List Value).toArray w (Ended P rv rh ρ h w k kp) := fun {base n c} hsr hnc hnil e7 => by
          obtain ⟨x, v, h', ρ', w', m1, m2, m3, m4, m5⟩ := append_ok hcx (ts := #[st, st]) (t := st) (ty := 0) (vs := [.slice base n c, .slice (some ⟨vb, vbase + ov, none⟩) m (cv + vex)]) r rfl hf.noInt rfl rfl hsr hv e7
          refine Calls.mono (hf.fin base n c vb (vbase + ov) m (cv + vex) w w' v hm hnc hnil fun ty => m2) fun en w2 he => ?_
          obtain ⟨rfl, rfl⟩ := he
          exact ⟨x, h', ρ', m1, m3, m4, m5⟩
        obtain ⟨n, c, rfl, e7⟩ | ⟨b, o, n, cap, rfl, e7⟩ := onSl_ok e6
        · obtain ⟨hc, e8⟩ | ⟨_, e8⟩ := ifB_ok e7
          · rw [andB_eq, andB_eq, Bool.and_eq_true, Bool.and_eq_true] at hc
            have h1 := Nat.eq_of_beq_eq_true hc.1
            have h2 := Nat.eq_of_beq_eq_true hc.2.1
            have h3 := Nat.eq_of_beq_eq_true hc.2.2
            subst h3
            subst h2
            subst h1
            have : sv = .slice none 0 0 := by cases hs; rfl
            subst this
            exact app (base := none) hs (Nat.le_refl _) (fun _ => rfl) e8
          · cases e8
        · obtain ⟨sb, base, ex, hρ, rfl⟩ := hs.sl
          obtain ⟨hncap, e8⟩ | ⟨_, e8⟩ := ifB_ok e7
          · rw [Nat.ble_eq] at hncap
            obtain ⟨hin, e9⟩ | ⟨hin, e9⟩ := ifB_ok e8
            · have := Nat.eq_of_beq_eq_true hin; subst this
              exact app hs (by omega) (fun hh => by cases hh) e9
            · obtain ⟨hlt, e10⟩ | ⟨_, e10⟩ := ifB_ok e9
              · rw [andB_eq, Bool.and_eq_true, Nat.blt_eq, Nat.ble_eq] at hlt
                obtain ⟨hilt, hbig⟩ := hlt
                obtain ⟨xs, news, e11, hgx, hxs, hsrc⟩ := srcK_ok r hv e10
                obtain ⟨hxsz, e12⟩ | ⟨_, e12⟩ := ifB_ok e11
                · obtain ⟨obv, hov, e13⟩ := getK_ok e12
                  obtain ⟨cv0, tv, exv, fzv, rfl, e14⟩ := oCells_ok e13
                  obtain ⟨hfv, e15⟩ | ⟨_, e15⟩ := ifB_ok e14
                  · rw [andB_eq, Bool.and_eq_true] at hfv
                    have hfv0 := Nat.eq_of_beq_eq_true hfv.1
                    subst hfv0
                    obtain ⟨ob, hob, e16⟩ := getK_ok e15
                    obtain ⟨c0', te, exact_, fz, rfl, e17⟩ := oCells_ok e16
                    obtain ⟨_, e18⟩ | ⟨hex, e18⟩ := ifB_ok e17
                    · cases e18
                    · subst hex
                      obtain ⟨hch, e19⟩ | ⟨_, e19⟩ := ifB_ok e18
                      · rw [andB_eq, andB_eq, Bool.and_eq_true, Bool.and_eq_true] at hch
                        have hte := Nat.eq_of_beq_eq_true hch.1.1
                        subst hte
                        have hfz := hch.1.2
                        rw [Nat.ble_eq] at hfz
                        obtain ⟨b1, base1, ex1, z1, q5⟩ := r.obj _ _ hob
                        rw [hρ] at z1; cases z1
                        have hcapl := hch.2
                        rw [c0'.size_eq q5.1, Nat.ble_eq] at hcapl
                        obtain ⟨b2, base2, ex2, z2, q6⟩ := r.obj _ _ hov
                        rw [hρv] at z2; cases z2
                        have hne : vb ≠ sb := fun hh => by
                          have := r.inj bv b _ _ _ _ hov hob hρv hρ hh
                          have h9 := hfv.2
                          rw [this, beq_dec] at h9
                          simp at h9; cases h9
                        have hnl : n * size ≤ cap * size := Nat.mul_le_mul_right _ hncap
                        obtain ⟨cs, hcl, hcs, hcell⟩ := OR.sub (n := n * size) q5 (off := o) (by omega)
                        obtain ⟨p1, p2⟩ := insert_parts hcs hcl (Nat.le_of_lt hilt)
                        obtain ⟨c1, hk1, hg1, hl1⟩ := Cs.subK_gives q5.1 o (i * size)
                        obtain ⟨c2, hk2, hg2, hl2⟩ := Cs.mkK_gives hg1 hgx
                        obtain ⟨c3, hk3, hg3, hl3⟩ := Cs.subK_gives q5.1 (o + i * size) ((n - i) * size)
                        obtain ⟨c4, hk4, hg4, hl4⟩ := Cs.mkK_gives hg2 hg3
                        rw [hk1, hk2, hk3, hk4, natK_eq] at e19
                        obtain ⟨hd, hkd, hnd, had⟩ := delK_gives h b
                        rw [hkd] at e19
                        obtain ⟨h', hk', hn', ha'⟩ := newK_gives hd (.cells c4 te false fz)
                        rw [hk', hnd] at e19
                        have hl4' : c4.l = c1.l ++ xs.l ++ c3.l := by rw [hl4, hl2]
                        rw [← hl1] at p1
                        rw [← hl3] at p2
                        have hvl : news.length = m * size := by
                          cases hsrc with
                          | row _ _ _ _ _ _ hl _ => exact hl
                        have hnews : ∀ j v, news[j]? = some v → w.cell? ⟨vb, vbase + ov + j, none⟩ = some v := by
                          cases hsrc with
                          | row _ _ _ _ _ _ _ hh => exact hh
                        have h1c : ∀ v ∈ cs, v.oneCell' = true := CRs.one hcs
                        have h1v : ∀ v ∈ news, v.oneCell' = true := CRs.one hxs
                        obtain ⟨hgc, arr, lo, hi', hb, hcc, _, hsz, hz⟩ := q5
                        obtain ⟨_, arrv, lov, hiv, hbv, _, _, _, hzv⟩ := q6
                        rw [hf.cells] at hsz
                        have hlov : lov = hiv := hzv.none rfl
                        have l4 : c4.l.length = (n + m) * size := by
                          have a1 := VRs.length p1
                          have a2 := VRs.length p2
                          have a3 := VRs.length hxs
                          simp only [List.length_map, List.length_take, List.length_drop, hcl] at a1 a2 a3
                          have := Nat.mul_le_mul_right size (Nat.le_of_lt hilt)
                          rw [hl4', List.length_append, List.length_append, a1, a2, a3, hvl, Nat.add_mul]
                          omega
                        have hpos := hf.pos
                        have hnpos : 0 < n * size := Nat.mul_pos (by omega) hpos
                        have ia : (cap + ex) * size = cap * size + ex * size := Nat.add_mul _ _ _
                        have hcell' : ∀ j v, cs[j]? = some v → arr[base + o + j]? = some v := fun j v hj => by
                          have := hcell j v hj
                          simpa [World.cell?, hb] using this
                        by_cases hroom : n + m ≤ cap + ex
                        · -- there is room
                          have ib := Nat.mul_le_mul_right size hroom
                          refine Calls.mono (hf.shift sb (base + o) n (cap + ex) i vb (vbase + ov) m (cv + vex) cs news w hilt hm hroom hbig hne hcl hvl hcell (fun j hj => ?_) (fun j hj => ?_) hnews h1c h1v tv te arrv.size arr.size ?_ ?_ (by omega) ?_ ?_) fun en w' he => ?_
                          · rw [World.cell?, hb]
                            simp
                            omega
                          · rw [World.frozen?, hb]
                            rcases hz.behind hfz with h1 | h1
                            · simp; omega
                            · simp; omega
                          · rw [World.shape?, hbv]
                          · rw [World.shape?, hb]
                          · rw [World.frozen?, hbv]; simp; omega
                          · rw [World.frozen?, hbv]; simp; omega
                          · obtain ⟨rfl, rfl⟩ := he
                            have hle : i * size ≤ n * size := Nat.mul_le_mul_right _ (Nat.le_of_lt hilt)
                            have im : (i + m) * size = i * size + m * size := Nat.add_mul _ _ _
                            have inm : (n + m) * size = n * size + m * size := Nat.add_mul _ _ _
                            have hdl : (cs.drop (i * size)).length = n * size - i * size := by rw [List.length_drop, hcl]
                            obtain ⟨arr1, f1, f2, f3⟩ := setCells_heap sb te (lo, hi') (cs.drop (i * size)) (base + o + (i + m) * size) w.drew arr hb (by omega)
                            obtain ⟨arr2, g1, g2, g3⟩ := setCells_heap sb te (lo, hi') news (base + o + i * size) _ arr1 f1 (by omega)
                            obtain ⟨s1, s2, s3, s4⟩ := setCells_rest sb (cs.drop (i * size)) (base + o + (i + m) * size) w.drew
                            obtain ⟨t1, t2, t3, t4⟩ := setCells_rest sb news (base + o + i * size) (w.drew.setCells sb (base + o + (i + m) * size) (cs.drop (i * size)))
                            obtain ⟨ex', hex'⟩ : ∃ ex', n + m + ex' = cap + ex := ⟨cap + ex - (n + m), by omega⟩
                            have iex : (n + m) * size + ex' * size = (cap + ex) * size := by rw [← Nat.add_mul, hex']
                            have hsub := Rho.put_sub r.dom (sb, base + o, ex')
                            obtain ⟨R, S⟩ := remake_sound (base' := base + o) (ex' := ex') (o' := .cells c4 te false fz) (w' := (w.drew.setCells sb (base + o + (i + m) * size) (cs.drop (i * size))).setCells sb (base + o + i * size) news) (r.drew (w.drawn + 1)) hob hρ (by rw [hn', hnd])
                              (fun m => by rw [ha', hnd, had]) (t1.trans s1) (fun j hj => (setCells_other sb _ _ _ j hj).trans (setCells_other sb _ _ _ j hj)) ⟨t2.trans s2, t3.trans s3, t4.trans s4⟩
                              ⟨hg4, arr2, lo, hi', g1, fun j v hj => by
                                rw [hl4'] at hj
                                obtain ⟨v', q8, q9⟩ := ins_cells (f := fun j => arr2[base + o + j]?) p1 p2 hxs (Nat.le_of_lt hilt) hcl hvl (fun j v hjl hj => by
                                    show arr2[base + o + j]? = some v
                                    rw [g3, if_neg (by omega), f3, if_neg (by omega)]
                                    rw [List.getElem?_take, if_pos hjl] at hj
                                    exact hcell' j v hj) (fun j v hj => by
                                    show arr2[base + o + (i * size + j)]? = some v
                                    have hjl := (List.getElem?_eq_some_iff.1 hj).1
                                    rw [g3, if_pos (by omega), ← hj]
                                    congr 1; omega) (fun j v hj => by
                                    show arr2[base + o + ((i + m) * size + j)]? = some v
                                    have hjl := (List.getElem?_eq_some_iff.1 hj).1
                                    rw [g3, if_neg (by omega), f3, if_pos (by omega), ← hj]
                                    congr 1; omega) j v hj
                                exact ⟨v', q8, VR.mono hsub q9⟩, fun hh => (by cases hh), by rw [g2, f2, l4, hf.cells]; omega, ⟨hz.none, fun hh => by rw [g2, f2]; exact hz.behind hh, fun hh => by omega⟩⟩ ⟨arr, te, _, hb⟩ (fun j hh => by cases hh)
                            refine ⟨_, h', _, e19, R, (St.drew ρ h w (w.drawn + 1)).trans S, .s _ _ ?_⟩
                            have h4 := VR.sl (ρ := ρ.put h.next (sb, base + o, ex')) h.next 0 (n + m) (n + m) sb (base + o) ex' (ρ.put_same _ _)
                            rw [hex'] at h4
                            simpa [CR, Ce.toV, oneV] using h4
                        · -- a new row
                          refine Calls.mono (hf.grow sb (base + o) n (cap + ex) i vb (vbase + ov) m (cv + vex) cs news w hilt hm (by omega) (by omega) hbig hcl hvl hcell hnews h1c h1v) fun en w' he => ?_
                          obtain ⟨row, G, rfl, hG, hrow, htake, rfl⟩ := he
                          have hle : i * size ≤ n * size := Nat.mul_le_mul_right _ (Nat.le_of_lt hilt)
                          have im : (i + m) * size = i * size + m * size := Nat.add_mul _ _ _
                          have inm : (n + m) * size = n * size + m * size := Nat.add_mul _ _ _
                          have iG := Nat.mul_le_mul_right size hG
                          have hdl : (cs.drop (i * size)).length = n * size - i * size := by rw [List.length_drop, hcl]
                          have hb0 : (w.alloc (.cells row te)).drew.heap[w.heap.size]? = some (.cells row te (0, 0)) := by
                            show (w.heap.push (.cells row te))[w.heap.size]? = _
                            simp
                          obtain ⟨arr1, f1, f2, f3⟩ := setCells_heap w.heap.size te (0, 0) news (i * size) _ row hb0 (by omega)
                          obtain ⟨arr2, g1, g2, g3⟩ := setCells_heap w.heap.size te (0, 0) (cs.drop (i * size)) ((i + m) * size) (((w.alloc (.cells row te)).drew.setCells w.heap.size (i * size) news).drew) arr1 f1 (by omega)
                          obtain ⟨s1, s2, s3, s4⟩ := setCells_rest w.heap.size news (i * size) ((w.alloc (.cells row te)).drew)
                          obtain ⟨t1, t2, t3, t4⟩ := setCells_rest w.heap.size (cs.drop (i * size)) ((i + m) * size) (((w.alloc (.cells row te)).drew.setCells w.heap.size (i * size) news).drew)
                          have hsz0 : (w.alloc (.cells row te)).drew.heap.size = w.heap.size + 1 := by
                            show (w.heap.push (.cells row te)).size = _
                            simp
                          have hbel : Go.RowKit.Below w.heap.size w ((((w.alloc (.cells row te)).drew.setCells w.heap.size (i * size) news).drew).setCells w.heap.size ((i + m) * size) (cs.drop (i * size))) := by
                            refine ⟨t2.trans s2, t4.trans s4, t3.trans s3, ?_, fun j hj => ?_⟩
                            · have : (((w.alloc (.cells row te)).drew.setCells w.heap.size (i * size) news).drew).heap.size = w.heap.size + 1 := s1.trans hsz0
                              rw [t1, this]; omega
                            · rw [setCells_other w.heap.size _ _ _ j (by omega)]
                              show ((w.alloc (.cells row te)).drew.setCells w.heap.size (i * size) news).heap[j]? = _
                              rw [setCells_other w.heap.size _ _ _ j (by omega)]
                              show (w.heap.push (.cells row te))[j]? = _
                              rw [Array.getElem?_push, if_neg (by omega)]
                          obtain ⟨R1, S1⟩ := del_sound r hnd had (fun c _ hh => r.noMit hob c hh)
                          obtain ⟨R2, S2⟩ := below_sound R1 hbel
                          have hsub := Rho.put_sub R1.dom (w.heap.size, 0, G - (n + m))
                          obtain ⟨R3, S3⟩ := adopt_sound (w0 := w) (o := .cells c4 te false fz) (g := w.heap.size) (ex := G - (n + m)) R2 S2 hn' ha' (by
                              have : (((w.alloc (.cells row te)).drew.setCells w.heap.size (i * size) news).drew).heap.size = w.heap.size + 1 := s1.trans hsz0
                              rw [t1, this]; omega) (Nat.le_refl _) (fun a x hx hh => by have := r.blk a x hx; omega) (fun hh => by have := r.free.lt hh; omega)
                            ⟨hg4, arr2, 0, 0, g1, fun j v hj => by
                                rw [hl4'] at hj
                                obtain ⟨v', q8, q9⟩ := ins_cells (f := fun j => arr2[0 + j]?) p1 p2 hxs (Nat.le_of_lt hilt) hcl hvl (fun j v hjl hj => by
                                    show arr2[0 + j]? = some v
                                    rw [g3, if_neg (by omega), f3, if_neg (by omega), Nat.zero_add]
                                    exact htake j v hj) (fun j v hj => by
                                    show arr2[0 + (i * size + j)]? = some v
                                    have hjl := (List.getElem?_eq_some_iff.1 hj).1
                                    rw [g3, if_neg (by omega), f3, if_pos (by omega), ← hj]
                                    congr 1; omega) (fun j v hj => by
                                    show arr2[0 + ((i + m) * size + j)]? = some v
                                    have hjl := (List.getElem?_eq_some_iff.1 hj).1
                                    rw [g3, if_pos (by omega), ← hj]
                                    congr 1; omega) j v hj
                                exact ⟨v', q8, VR.mono hsub q9⟩, fun hh => (by cases hh), by
                                  rw [g2, f2, hrow, l4, hf.cells, Nat.zero_add, ← Nat.add_mul, show n + m + (G - (n + m)) = G by omega]
                                  exact Nat.le_refl _, ⟨fun _ => rfl, fun _ => .inl rfl, fun _ => .inl rfl⟩⟩ (fun j hh => by cases hh)
                          rw [hnd] at R3 S3
                          refine ⟨_, h', _, e19, R3, S1.trans S3, .s _ _ ?_⟩
                          have h4 := VR.sl (ρ := ρ.put h.next (w.heap.size, 0, G - (n + m))) h.next 0 (n + m) (n + m) w.heap.size 0 (G - (n + m)) (ρ.put_same _ _)
                          rw [show n + m + (G - (n + m)) = G by omega] at h4
                          simpa [CR, Ce.toV, oneV] using h4
                      · cases e19
                  · cases e15
                · cases e12
              · cases e10
          · cases e8
  · cases e3
theorem EntOk.e103 {cx : Cx} (hcx : CxOk P cx) {tb : Tb} {f st size el : Nat} (hl : lbAt tb 3 = .insert st size el) (he : InsertIs P f st el size) : EntOk P cx tb f (.ext 103) := by
  refine ⟨fun {rv rh ρ h' w args vs k kp} r ha e1 => ?_⟩
  have e2 : lbOf (lbAt tb 3) cx args h' k = .ok rv rh := e1
  rw [hl] at e2
  exact xInsert_ok hcx he r ha e2
end Go.Ev
end
section
/- Ev, soundness, part 66: closed checks of the map-copying loop. Conditions: none. -/
namespace Go.Ev
set_option linter.unusedVariables false
variable {P : Program}

/-- The blocks of a number. -/
def blocksOf (n : Nat) : Code → List Code
  | .seq x y => blocksOf n x ++ blocksOf n y
  | .cond _ x y => blocksOf n x ++ blocksOf n y
  | .block id x => (if id = n then [x] else []) ++ blocksOf n x
  | .loop x => blocksOf n x
  | .scope x => blocksOf n x
  | _ => []
/-- The operations of a region. -/
def opsOf (n : Nat) : Code → List Oper
  | .region id os _ => if id = n then os.toList else []
  | .seq x y => opsOf n x ++ opsOf n y
  | .cond _ x y => opsOf n x ++ opsOf n y
  | .block _ x => opsOf n x
  | .loop x => opsOf n x
  | .scope x => opsOf n x
  | _ => []
def noOper : Oper := { dst := none, op := .move (.tmp 0), type := 0, pos := "", after := #[], guard := none }
noncomputable def opAt (n i : Nat) (c : Code) : Oper := (opsOf n c).getD i noOper
/-- The number of the block that a hook answers. -/
def hkId : Hk → Option Nat
  | .no => none
  | .copy i _ _ _ _ _ => some i
  | .alt i _ => some i
theorem HookOk.other {dm : Option Md} {N n : Nat} {b : B} {c : Code} (h : hkId b.hk ≠ some n) : HookOk P dm N b n c :=
  ⟨fun hc _ _ => (by rw [hc] at h; exact absurd rfl h), fun hc _ _ => (by rw [hc] at h; exact absurd rfl h)⟩
theorem HookAll.of_blocks {dm : Option Md} {N n : Nat} {b : B} (hb : hkId b.hk = some n) : ∀ c, (∀ x ∈ blocksOf n c, HookOk P dm N b n x) → HookAll P dm N b c := by
  intro c
  induction c with
  | seq x y h1 h2 => intro h; exact ⟨h1 fun z hz => h z (List.mem_append_left _ hz), h2 fun z hz => h z (List.mem_append_right _ hz)⟩
  | cond c x y h1 h2 => intro h; exact ⟨h1 fun z hz => h z (List.mem_append_left _ hz), h2 fun z hz => h z (List.mem_append_right _ hz)⟩
  | block id x h1 =>
    intro h
    refine ⟨?_, h1 fun z hz => h z (List.mem_append_right _ hz)⟩
    by_cases hid : id = n
    · subst hid
      exact h x (List.mem_append_left _ (by simp))
    · exact HookOk.other (fun hh => hid (by rw [hb] at hh; exact (Option.some.inj hh).symm))
  | loop x h1 => exact h1
  | scope x h1 => exact h1
  | _ => intro _; trivial

/-! ### the operations -/
def isNext (it : Nat) : Op → Bool
  | .next (.tmp a) b => Nat.beq a it && !b
  | _ => false
theorem isNext_ok {it : Nat} {o : Op} (h : isNext it o = true) : o = .next (.tmp it) false := by
  unfold isNext at h
  split at h
  · rw [Bool.and_eq_true] at h
    have := Nat.eq_of_beq_eq_true h.1
    subst this
    have h2 := h.2
    simp at h2; subst h2; rfl
  · cases h
/-- The edges of the last region. -/
def edgesB (l : List Oper) : Bool := (l.zipIdx.all fun p => p.1.after.toList.all fun e => !Region.binds .any e || Nat.blt e.on p.2)
theorem edgesB_ok {l : List Oper} (h : edgesB l = true) : ∀ (j : Nat) (o : Oper) (e : Edge), (l.toArray)[j]? = some o → e ∈ o.after → Region.binds .any e = true → e.on < j := by
  intro j o e hj he hb
  have h1 := List.all_eq_true.1 h (o, j) (by
    rw [List.mem_zipIdx_iff_getElem?]
    simpa using hj)
  have h2 := List.all_eq_true.1 h1 e (by simpa using he)
  rw [hb] at h2
  simpa [Nat.blt_eq] using h2
def edgeTo (o : Oper) (n : Nat) : Bool := o.after.toList.any fun e => Region.binds .any e && Nat.beq e.on n
theorem edgeTo_ok {o : Oper} {n : Nat} (h : edgeTo o n = true) : ∃ e ∈ o.after, Region.binds .any e = true ∧ e.on = n := by
  obtain ⟨e, h1, h2⟩ := List.any_eq_true.1 h
  rw [Bool.and_eq_true] at h2
  exact ⟨e, by simpa using h1, h2.1, Nat.eq_of_beq_eq_true h2.2⟩
theorem edges6 {o : Oper} (h : (edgeTo o 0 && edgeTo o 1 && edgeTo o 2 && edgeTo o 3 && edgeTo o 4 && edgeTo o 5) = true) : ∀ j, j < 6 → ∃ e ∈ o.after, Region.binds .any e = true ∧ e.on = j := by
  simp only [Bool.and_eq_true] at h
  obtain ⟨⟨⟨⟨⟨h0, h1⟩, h2⟩, h3⟩, h4⟩, h5⟩ := h
  intro j hj
  match j, hj with
  | 0, _ => exact edgeTo_ok h0
  | 1, _ => exact edgeTo_ok h1
  | 2, _ => exact edgeTo_ok h2
  | 3, _ => exact edgeTo_ok h3
  | 4, _ => exact edgeTo_ok h4
  | 5, _ => exact edgeTo_ok h5
end Go.Ev
end
section
/- Ev, soundness, part 67: a bit of a row of bytes; a loop that looks for one. Conditions: none. -/
namespace Go.Ev
set_option linter.unusedVariables false
variable {P : Program} {rv : RV} {rh : H}

/-- A function that says whether a bit is set. -/
def HasIs (P : Program) (f : Nat) : Prop :=
  (∃ fn c, P.funcs[f]? = some fn ∧ (fn.name == "runtime.NumGoroutine") = false ∧ fn.body = some c) ∧
  ∀ (w : World) (b o n m : Nat), n < 4096 → m < 256 → w.cell? ⟨b, o + n / 8, none⟩ = some (.int .u8 m) → Calls P f #[.pointer (some ⟨b, o, none⟩), .int .i64 n] w fun e w' => e = .returned (.bool (Nat.beq (m / 2 ^ (n % 8) % 2) 1)) ∧ w' = w
theorem xHas_ok {f : Nat} {cx : Cx} {ρ : Rho} {h : H} {w : World} {args : List RV} {vs : List Value} {k : KV} {kp : KP} (hf : HasIs P f) (r : HR P ρ h w) (ha : RRs ρ args vs) (e : xHas cx args h k = .ok rv rh) : NextOk P rv rh ρ h w k kp ((callFunc f vs.toArray).run P w) := by
  obtain ⟨⟨fn0, c0, q1, q2, q3⟩, hcall⟩ := hf
  rw [run_callFunc_body q1 q2 q3]
  obtain ⟨c, d, v, u, rfl, hc, hd, e1⟩ := args2_ok ha e
  obtain ⟨b, o, rfl, e2⟩ := place_ok e1
  obtain ⟨kd, n, rfl, e3⟩ := onInt_ok e2
  obtain ⟨n, rfl, e4⟩ := iabs_ok e3
  obtain ⟨hk, e5⟩ | ⟨_, e5⟩ := ifB_ok e4
  · rw [andB_eq, Bool.and_eq_true, Nat.blt_eq] at hk
    have := kindEq_spec hk.1; subst this
    have := hd.int; subst this
    obtain ⟨blk, base, ex, hρ, rfl⟩ := (RR.s _ _ hc).place
    obtain ⟨c1, v1, e6, hc1, hcell⟩ := cell_ok r hρ e5
    obtain ⟨j, m, rfl, e7⟩ := onInt_ok e6
    obtain ⟨m, rfl, e8⟩ := iabs_ok e7
    obtain ⟨hj, e9⟩ | ⟨_, e9⟩ := ifB_ok e8
    · rw [andB_eq, Bool.and_eq_true, Nat.blt_eq] at hj
      have := kindEq_spec hj.1; subst this
      have := hc1.int; subst this
      rw [boolK_eq] at e9
      rw [← Nat.add_assoc] at hcell
      refine Calls.mono (hcall w blk (base + o) n m hk.2 hj.2 hcell) fun en w' he => ?_
      obtain ⟨rfl, rfl⟩ := he
      exact ⟨_, h, ρ, e9, r, St.refl _ _ _, .s _ _ (VR.bool _)⟩
    · cases e9
  · cases e5
theorem EntOk.e14 {cx : Cx} {tb : Tb} {f : Nat} (he : HasIs P f) : EntOk P cx tb f (.ext 14) := ⟨fun {rv rh ρ h' w args vs k kp} r ha e1 => xHas_ok (cx := cx) he r ha e1⟩

/-- A function that counts a number's digits, by the table of the powers of ten. -/
def NumIs (P : Program) (f : Nat) : Prop :=
  (∃ fn c, P.funcs[f]? = some fn ∧ (fn.name == "runtime.NumGoroutine") = false ∧ fn.body = some c) ∧
  ∀ (w : World), (∀ i, i < 20 → w.cell? ⟨tabB, i, none⟩ = some (.int .u64 (10 ^ i : Nat))) → Calls P f #[.int .u64 201] w fun e w' => e = .returned (.int .i64 3) ∧ w' = w
theorem xNum_ok {f : Nat} {cx : Cx} {ρ : Rho} {h : H} {w : World} {args : List RV} {vs : List Value} {k : KV} {kp : KP} (hf : NumIs P f) (r : HR P ρ h w) (ha : RRs ρ args vs) (e : xNum cx args h k = .ok rv rh) : NextOk P rv rh ρ h w k kp ((callFunc f vs.toArray).run P w) := by
  obtain ⟨⟨fn0, c0, q1, q2, q3⟩, hcall⟩ := hf
  rw [run_callFunc_body q1 q2 q3]
  obtain ⟨c, v, rfl, hc, e1⟩ := args1_ok ha e
  obtain ⟨kd, n, rfl, e2⟩ := onInt_ok e1
  obtain ⟨n, rfl, e3⟩ := iabs_ok e2
  obtain ⟨hk, e4⟩ | ⟨_, e4⟩ := ifB_ok e3
  · rw [andB_eq, Bool.and_eq_true] at hk
    have := kindEq_spec hk.1; subst this
    have := Nat.eq_of_beq_eq_true hk.2; subst this
    have := hc.int; subst this
    obtain ⟨_, ct, tt, fr, h1, h2⟩ := r.free.1
    refine Calls.mono (hcall w fun i hi => by simp [World.cell?, h1, h2 i hi]) fun en w' he => ?_
    obtain ⟨rfl, rfl⟩ := he
    exact ⟨_, h, ρ, e4, r, St.refl _ _ _, .s _ _ (VR.int _ _)⟩
  · cases e4
theorem EntOk.e15 {cx : Cx} {tb : Tb} {f : Nat} (he : NumIs P f) : EntOk P cx tb f (.ext 15) := ⟨fun {rv rh ρ h' w args vs k kp} r ha e1 => xNum_ok (cx := cx) he r ha e1⟩

/-! ### the loop -/
/-- The temporaries, with a value set. -/
def Env.put (n : Nat) (v : RV) : Env → Env
  | .nil => .cons n v .nil
  | .cons m w t => if m = n then .cons n v t else .cons m w (Env.put n v t)
theorem Env.setK_put (n : Nat) (v : RV) : ∀ (e : Env) (k : Env → RT), e.setK n v k = k (e.put n v) := by
  intro e
  induction e with
  | nil => intro k; rfl
  | cons m w t ih =>
    intro k
    have hun : (Env.cons m w t).setK n v k = ifB (Nat.beq m n) (k (.cons n v t)) (t.setK n v fun t1 => k (.cons m w t1)) := rfl
    rw [hun, beq_dec, ifB_dec, ih]
    by_cases h : m = n
    · rw [if_pos h]; simp [Env.put, h]
    · rw [if_neg h]; simp [Env.put, h]
theorem Env.put_look (n : Nat) (v : RV) : ∀ (e : Env) (m : Nat), (e.put n v).look m = if n = m then some v else e.look m
  | .nil, m => by simp [Env.put, Env.look]
  | .cons x w t, m => by
    by_cases h : x = n
    · subst h; by_cases h2 : x = m <;> simp [Env.put, Env.look, h2]
    · by_cases h2 : x = m
      · subst h2
        have : ¬ n = x := fun h3 => h h3.symm
        simp [Env.put, Env.look, h, this]
      · simp [Env.put, Env.look, h, h2, Env.put_look n v t m]
theorem Env.put_put (n : Nat) (v w : RV) : ∀ e : Env, (e.put n w).put n v = e.put n v
  | .nil => by simp [Env.put]
  | .cons x y t => by
    by_cases h : x = n
    · simp [Env.put, h]
    · simp [Env.put, h, Env.put_put n v w t]
theorem Env.put_comm {n m : Nat} (hne : n ≠ m) (v w : RV) : ∀ {e : Env}, e.look n ≠ none → (e.put m w).put n v = (e.put n v).put m w
  | .nil, h => absurd rfl h
  | .cons x y t, h => by
    by_cases h1 : x = n
    · subst h1
      have : ¬ x = m := hne
      simp [Env.put, this]
    · by_cases h2 : x = m
      · subst h2
        simp [Env.put, h1]
      · have h3 : t.look n ≠ none := by simpa [Env.look, h1] using h
        simp [Env.put, h1, h2, Env.put_comm hne v w h3]
theorem Env.getK_look {n : Nat} {v : RV} : ∀ {e : Env}, e.look n = some v → ∀ k, e.getK n k = k v := by
  intro e h k
  rcases Env.getK_gives n e with ⟨v', h1, h2⟩ | ⟨s, hs⟩
  · rw [h] at h1; cases h1; exact h2 k
  · exfalso
    have h2 := hs fun _ => .ok .u (.mk .nil 0)
    induction e with
    | nil => cases h
    | cons m w t ih =>
      have hun : ∀ k, (Env.cons m w t).getK n k = ifB (Nat.beq m n) (k w) (t.getK n k) := fun _ => rfl
      rw [hun, beq_dec, ifB_dec] at h2
      by_cases hm : m = n
      · rw [if_pos hm] at h2; cases h2
      · rw [if_neg hm] at h2
        refine ih (by simpa [Env.look, hm] using h) (fun k => ?_) h2
        have := hs k
        rw [hun, beq_dec, ifB_dec, if_neg hm] at this
        exact this

/-! ### an operation at a time -/
section
variable {cx : Cx} {call : CallT} {keep : Nat} {os : List Oper} {o : Oper} {l e : Env} {fr : F} {h : H} {k : KL} {kp : KP}
theorem tmpK_kept {t : Nat} {k : RV → RT} (ht : kept keep t = true) : tmpK (.mk cx call keep) l e t k = e.getK t k := by
  show (Bool.rec (motive := fun _ => RT) (l.getK t k) (e.getK t k) (kept keep t) : RT) = _
  rw [ht]
theorem tmpK_local {t : Nat} {k : RV → RT} (ht : kept keep t = false) : tmpK (.mk cx call keep) l e t k = l.getK t k := by
  show (Bool.rec (motive := fun _ => RT) (l.getK t k) (e.getK t k) (kept keep t) : RT) = _
  rw [ht]
theorem putT_kept {d : Nat} {v : RV} {k : Env → Env → RT} (hd : kept keep d = true) : putT (.mk cx call keep) l e d v k = k l (e.put d v) := by
  show (Bool.rec (motive := fun _ => RT) (k (.cons d v l) e) (e.setK d v (k l)) (kept keep d) : RT) = _
  rw [hd]
  exact Env.setK_put d v e (k l)
theorem putT_local {d : Nat} {v : RV} {k : Env → Env → RT} (hd : kept keep d = false) : putT (.mk cx call keep) l e d v k = k (.cons d v l) e := by
  show (Bool.rec (motive := fun _ => RT) (k (.cons d v l) e) (e.setK d v (k l)) (kept keep d) : RT) = _
  rw [hd]
theorem opK_plain {q : Q} {d : Nat} {op : Op} (ho : o.op = op) (hg : o.guard = none) (hd : o.dst = some d) : opK q os o l e fr h k kp = exO op q l e fr h (fun v fr h => putT q l e d v fun l e => k l e fr h) kp := by
  unfold opK
  rw [hg, ho, hd]
  rfl
/-- What an operation's parts are. -/
structure OpIs (o : Oper) (op : Op) (d : Nat) : Prop where
  op : o.op = op
  dst : o.dst = some d
  guard : o.guard = none
theorem OpIs.run {q : Q} {d : Nat} {op : Op} (x : OpIs o op d) : opK q os o l e fr h k kp = exO op q l e fr h (fun v fr h => putT q l e d v fun l e => k l e fr h) kp := opK_plain x.op x.guard x.dst
end
theorem opsK_cons {os l : List Oper} {o : Oper} {q : Q} {le e : Env} {fr : F} {h : H} {k : KE} {kp : KQ} : opsK os (o :: l) q le e fr h k kp = opK q os o le e fr h (fun le e fr h => opsK os l q le e fr h k kp) (fun v h => kp e fr v h) := rfl
theorem opsK_nil {os : List Oper} {q : Q} {le e : Env} {fr : F} {h : H} {k : KE} {kp : KQ} : opsK os [] q le e fr h k kp = k e fr h := rfl

/-! ### what the loop comes to -/
noncomputable def eScan : RT := .err "the loop that looks for a bit"
noncomputable def scanB (c : Cs) (off fuel : Nat) : Nat → RT → RT :=
  Nat.rec (motive := fun _ => Nat → RT → RT) (fun _ k => k) (fun _ ih n k => onSome (c.get (off + n / 8)) "no such cell" fun v => onInt v fun j m => iabs m fun m => ifB (andB (andB (kindEq j .u8) (Nat.blt m 256)) (notB (bitN m n))) (natK (n + 1) fun n1 => ih n1 k) eScan) fuel
noncomputable def scanF (i p off lim a1 b4 : Nat) (e : Env) (fr : F) (h : H) (kN : KE) : RT :=
  e.getK i fun v => onS v fun v => onInt v fun kd n => iabs n fun n => ifB (andB (kindEq kd .i64) (andB (Nat.blt n lim) (Nat.ble lim 4096))) (e.getK p fun v => onPlace v fun pb po => h.getK pb fun ob => oCells ob fun c _ _ _ => scanB c (po + off) (lim - n) n
    (e.setK a1 (.s (.b true)) fun e => e.setK b4 (.s (.b false)) fun e => e.setK i (.s (.i .i64 (.ofNat lim))) fun e => e.setK a1 (.s (.b false)) fun e => kN e fr h)) eScan
/-- The temporaries when the loop is left. -/
def scanE (i lim a1 b4 : Nat) (e : Env) : Env := (((e.put a1 (.s (.b true))).put b4 (.s (.b false))).put i (.s (.i .i64 (.ofNat lim)))).put a1 (.s (.b false))
def scanE1 (i n a1 b4 : Nat) (e : Env) : Env := ((e.put a1 (.s (.b true))).put b4 (.s (.b false))).put i (.s (.i .i64 (.ofNat (n + 1))))
theorem scanE_step {i n lim a1 b4 : Nat} {e : Env} (h1 : a1 ≠ b4) (h2 : a1 ≠ i) (h3 : b4 ≠ i) (hi : e.look i ≠ none) : scanE i lim a1 b4 (scanE1 i n a1 b4 e) = scanE i lim a1 b4 e := by
  have la : ∀ (x : Env) v, (x.put a1 v).look a1 ≠ none := fun x v => by rw [Env.put_look]; simp
  have lb : ∀ (x : Env) v, (x.put b4 v).look b4 ≠ none := fun x v => by rw [Env.put_look]; simp
  have lab : ∀ (x : Env) v w, ((x.put a1 v).put b4 w).look a1 ≠ none := fun x v w => by rw [Env.put_look, if_neg (Ne.symm h1), Env.put_look]; simp
  unfold scanE scanE1
  have e1 : ∀ x : Env, ((x.put a1 (.s (.b true))).put b4 (.s (.b false))).put a1 (.s (.b true)) = (x.put a1 (.s (.b true))).put b4 (.s (.b false)) := fun x => by
    rw [Env.put_comm h1 _ _ (la _ _), Env.put_put]
  have e2 : ((((e.put a1 (.s (.b true))).put b4 (.s (.b false))).put i (.s (.i .i64 (.ofNat (n + 1))))).put a1 (.s (.b true))) = (((e.put a1 (.s (.b true))).put b4 (.s (.b false))).put i (.s (.i .i64 (.ofNat (n + 1))))) := by
    rw [Env.put_comm h2 _ _ (lab _ _ _), e1]
  rw [e2, Env.put_comm h3 _ _ (lb _ _), Env.put_put, Env.put_put]
end Go.Ev
end
section
/- Ev, soundness, part 68: calls that were run before. Conditions: none. -/
namespace Go.Ev
set_option linter.unusedVariables false
variable {P : Program} {rv : RV} {rh : H}

/-! ### the same, to the letter -/
noncomputable def csSame (a : Cs) : Cs → RT → RT := Cs.rec (motive := fun _ => Cs → RT → RT)
  (fun b k => Cs.rec (motive := fun _ => RT) k (fun _ _ => eSame) (fun _ _ _ _ _ => eSame) b)
  (fun n v b k => Cs.rec (motive := fun _ => RT) eSame (fun m w => ifB (Nat.beq n m) (sameK same2 v w k) eSame) (fun _ _ _ _ _ => eSame) b)
  (fun n _ _ ix iy b k => Cs.rec (motive := fun _ => RT) eSame (fun _ _ => eSame) (fun m u v _ _ => ifB (Nat.beq n m) (ix u (iy v k)) eSame) b) a
theorem csSame_ok : ∀ {a b : Cs} {k : RT}, csSame a b k = .ok rv rh → a = b ∧ k = .ok rv rh := by
  intro a
  induction a with
  | nil => intro b k e; cases b with
    | nil => exact ⟨rfl, e⟩
    | _ => cases e
  | rep n v => intro b k e; cases b with
    | rep m w =>
      obtain ⟨rfl, e1⟩ := natEq_of (a := n) (b := m) e
      obtain ⟨rfl, e2⟩ := sameK_ok (sameV_ok 8) e1
      exact ⟨rfl, e2⟩
    | _ => cases e
  | cat n x y ihx ihy => intro b k e; cases b with
    | cat m u v =>
      obtain ⟨rfl, e1⟩ := natEq_of (a := n) (b := m) (k := csSame x u (csSame y v k)) e
      obtain ⟨rfl, e2⟩ := ihx e1
      obtain ⟨rfl, e3⟩ := ihy e2
      exact ⟨rfl, e3⟩
    | _ => cases e
noncomputable def rvSame (x : RV) : RV → RT → RT := RV.rec (motive := fun _ => RV → RT → RT)
  (fun c y k => RV.rec (motive := fun _ => RT) (fun d => sameK same2 c d k) (fun _ => eSame) eSame (fun _ _ _ _ => eSame) y)
  (fun c y k => RV.rec (motive := fun _ => RT) (fun _ => eSame) (fun d => csSame c d k) eSame (fun _ _ _ _ => eSame) y)
  (fun y k => RV.rec (motive := fun _ => RT) (fun _ => eSame) (fun _ => eSame) k (fun _ _ _ _ => eSame) y)
  (fun _ _ ia ib y k => RV.rec (motive := fun _ => RT) (fun _ => eSame) (fun _ => eSame) eSame (fun y1 y2 _ _ => ia y1 (ib y2 k)) y) x
theorem rvSame_ok : ∀ {x y : RV} {k : RT}, rvSame x y k = .ok rv rh → x = y ∧ k = .ok rv rh := by
  intro x
  induction x with
  | s c => intro y k e; cases y with
    | s d =>
      obtain ⟨rfl, e2⟩ := sameK_ok (sameV_ok 8) (x := c) (y := d) (k := k) e
      exact ⟨rfl, e2⟩
    | _ => cases e
  | a c => intro y k e; cases y with
    | a d =>
      obtain ⟨rfl, e2⟩ := csSame_ok (a := c) (b := d) (k := k) e
      exact ⟨rfl, e2⟩
    | _ => cases e
  | u => intro y k e; cases y with
    | u => exact ⟨rfl, e⟩
    | _ => cases e
  | p a b iha ihb => intro y k e; cases y with
    | p y1 y2 =>
      obtain ⟨rfl, e1⟩ := iha (y := y1) (k := rvSame b y2 k) e
      obtain ⟨rfl, e2⟩ := ihb e1
      exact ⟨rfl, e2⟩
    | _ => cases e
noncomputable def rvsSame (l : List RV) : List RV → RT → RT := List.rec (motive := fun _ => List RV → RT → RT)
  (fun m k => List.rec (motive := fun _ => RT) k (fun _ _ _ => eSame) m) (fun x _ ih m k => List.rec (motive := fun _ => RT) eSame (fun y t _ => rvSame x y (ih t k)) m) l
theorem rvsSame_ok : ∀ {l m : List RV} {k : RT}, rvsSame l m k = .ok rv rh → l = m ∧ k = .ok rv rh := by
  intro l
  induction l with
  | nil => intro m k e; cases m with
    | nil => exact ⟨rfl, e⟩
    | cons _ _ => cases e
  | cons x l ih => intro m k e; cases m with
    | nil => cases e
    | cons y m =>
      obtain ⟨rfl, e1⟩ := rvSame_ok (x := x) (y := y) (k := rvsSame l m k) e
      obtain ⟨rfl, e2⟩ := ih e1
      exact ⟨rfl, e2⟩
noncomputable def mlSame (l : ML) : ML → RT → RT := ML.rec (motive := fun _ => ML → RT → RT)
  (fun m k => ML.rec (motive := fun _ => RT) k (fun _ _ _ _ => eSame) m) (fun c x _ ih m k => ML.rec (motive := fun _ => RT) eSame (fun d y t _ => sameK same2 c d (rvSame x y (ih t k))) m) l
theorem mlSame_ok : ∀ {l m : ML} {k : RT}, mlSame l m k = .ok rv rh → l = m ∧ k = .ok rv rh := by
  intro l
  induction l with
  | nil => intro m k e; cases m with
    | nil => exact ⟨rfl, e⟩
    | cons _ _ _ => cases e
  | cons c x l ih => intro m k e; cases m with
    | nil => cases e
    | cons d y m =>
      obtain ⟨rfl, e0⟩ := sameK_ok (sameV_ok 8) (x := c) (y := d) (k := rvSame x y (mlSame l m k)) e
      obtain ⟨rfl, e1⟩ := rvSame_ok e0
      obtain ⟨rfl, e2⟩ := ih e1
      exact ⟨rfl, e2⟩
noncomputable def obSame (o : HObj) (p : HObj) (k : RT) : RT := HObj.rec (motive := fun _ => RT)
  (fun c e ex fz => HObj.rec (motive := fun _ => RT) (fun c1 e1 ex1 fz1 => ifB (Nat.beq e e1) (ifB (boolEq ex ex1) (ifB (Nat.beq fz fz1) (csSame c c1 k) eSame) eSame) eSame) (fun _ _ => eSame) (fun _ _ => eSame) (fun _ => eSame) p)
  (fun l rg => HObj.rec (motive := fun _ => RT) (fun _ _ _ _ => eSame) (fun l1 rg1 => ifB (Nat.beq rg rg1) (mlSame l l1 k) eSame) (fun _ _ => eSame) (fun _ => eSame) p) (fun _ _ => eSame) (fun _ => eSame) o
theorem obSame_ok {o p : HObj} {k : RT} (e : obSame o p k = .ok rv rh) : o = p ∧ (∀ j, o ≠ .miter j) ∧ k = .ok rv rh := by
  cases o with
  | cells c t ex fz => cases p with
    | cells c1 t1 ex1 fz1 =>
      obtain ⟨rfl, e1⟩ := natEq_of (a := t) (b := t1) e
      obtain ⟨h2, e2⟩ := ifB_t e1
      rw [boolEq_eq, beq_iff_eq] at h2
      subst h2
      obtain ⟨rfl, e3⟩ := natEq_of e2
      obtain ⟨rfl, e4⟩ := csSame_ok e3
      exact ⟨rfl, fun j h => (by cases h), e4⟩
    | _ => cases e
  | map l rg => cases p with
    | map l1 rg1 =>
      obtain ⟨rfl, e1⟩ := natEq_of (a := rg) (b := rg1) e
      obtain ⟨rfl, e2⟩ := mlSame_ok e1
      exact ⟨rfl, fun j h => (by cases h), e2⟩
    | _ => cases e
  | _ => cases e
noncomputable def trSub (t : Tr HObj) : Tr HObj → RT → RT := Tr.rec (motive := fun _ => Tr HObj → RT → RT) (fun _ k => k)
  (fun _ v _ il ir u k => Tr.rec (motive := fun _ => RT) eSame (fun l1 v1 r1 _ _ => Option.rec (motive := fun _ => RT) (il l1 (ir r1 k)) (fun o => Option.rec (motive := fun _ => RT) eSame (fun o1 => obSame o o1 (il l1 (ir r1 k))) v1) v) u) t
theorem trSub_ok : ∀ {t u : Tr HObj} {k : RT}, trSub t u k = .ok rv rh → (∀ n o, t.get n = some o → u.get n = some o ∧ ∀ j, o ≠ .miter j) ∧ k = .ok rv rh := by
  intro t
  induction t with
  | nil => intro u k e; exact ⟨fun n o h => (by cases h), e⟩
  | node l v r ihl ihr =>
    intro u k e
    cases u with
    | nil => cases e
    | node l1 v1 r1 =>
      have fin : ∀ {k'}, trSub l l1 (trSub r r1 k') = .ok rv rh → (∀ o, v = some o → v1 = some o ∧ ∀ j, o ≠ .miter j) → (∀ n o, (Tr.node l v r).get n = some o → (Tr.node l1 v1 r1).get n = some o ∧ ∀ j, o ≠ .miter j) ∧ k' = .ok rv rh := fun e0 hv => by
        obtain ⟨h1, e1⟩ := ihl e0
        obtain ⟨h2, e2⟩ := ihr e1
        refine ⟨fun n o h => ?_, e2⟩
        cases n with
        | zero => exact hv o h
        | succ n =>
          rw [Tr.get_succ] at h ⊢
          by_cases h0 : n % 2 = 0
          · rw [if_pos h0] at h ⊢; exact h1 _ o h
          · rw [if_neg h0] at h ⊢; exact h2 _ o h
      cases v with
      | none => exact fin e fun o h => by cases h
      | some o =>
        cases v1 with
        | none => cases e
        | some o1 =>
          obtain ⟨rfl, hm, e1⟩ := obSame_ok (o := o) (p := o1) (k := trSub l l1 (trSub r r1 k)) e
          exact fin e1 fun o' h => by cases h; exact ⟨rfl, hm⟩
/-- The one heap's objects stand in the other; no more. -/
noncomputable def hSub (a b : H) (k : RT) : RT := H.rec (motive := fun _ => RT) (fun t n => H.rec (motive := fun _ => RT) (fun u m => ifB (Nat.beq n m) (trSub t u k) eSame) b) a
structure SubH (a b : H) : Prop where
  next : a.next = b.next
  at_ : ∀ n o, a.at n = some o → b.at n = some o ∧ ∀ j, o ≠ .miter j
theorem hSub_ok {a b : H} {k : RT} (e : hSub a b k = .ok rv rh) : SubH a b ∧ k = .ok rv rh := by
  cases a with
  | mk t n => cases b with
    | mk u m =>
      obtain ⟨rfl, e1⟩ := natEq_of (a := n) (b := m) (k := trSub t u k) e
      obtain ⟨h1, e2⟩ := trSub_ok e1
      exact ⟨⟨rfl, h1⟩, e2⟩

theorem HR.sub {ρ : Rho} {a b : H} {w : World} (s : SubH a b) (r : HR P ρ b w) : HR P ρ a w :=
  ⟨r.glob, r.free, fun x y e => by rw [s.next]; exact r.dom x y e, r.blk, fun x o e => r.obj x o (s.at_ x o e).1, fun x j e => absurd rfl ((s.at_ x _ e).2 j), fun x x' o o' y y' e1 e2 => r.inj x x' o o' y y' (s.at_ x o e1).1 (s.at_ x' o' e2).1⟩
theorem St.subL {ρ ρ' : Rho} {a b h' : H} {w w' : World} (s : SubH a b) (t : St ρ a w ρ' h' w') : St ρ b w ρ' h' w' :=
  ⟨t.sub, by rw [← s.next]; exact t.next, fun x y e => by rw [← s.next]; exact t.fresh x y e, t.size, fun b' hb hno => t.frame b' hb fun x o y e1 e2 => hno x o y (s.at_ x o e1).1 e2, fun x o y e1 e2 e3 => by
    obtain ⟨x', o', y', h1, h2⟩ := t.own x o y e1 e2 e3
    exact ⟨x', o', y', (s.at_ x' o' h1).1, h2⟩, t.os, t.out, t.tape⟩
theorem St.subR {ρ ρ' : Rho} {h a b : H} {w w' : World} (s : SubH a b) (t : St ρ h w ρ' b w') : St ρ h w ρ' a w' :=
  ⟨t.sub, by rw [s.next]; exact t.next, t.fresh, t.size, t.frame, fun x o y e1 => t.own x o y (s.at_ x o e1).1, t.os, t.out, t.tape⟩
theorem Ended.subL {ρ : Rho} {a b : H} {w w' : World} {k : KV} {kp : KP} (s : SubH a b) {en : Ending} (e : Ended P rv rh ρ a w k kp en w') : Ended P rv rh ρ b w k kp en w' := by
  cases en with
  | returned v => obtain ⟨x, h', ρ', e1, r, t, q⟩ := e; exact ⟨x, h', ρ', e1, r, t.subL s, q⟩
  | panicked ch => obtain ⟨c, v, h', ρ', e0, e1, r, t, q⟩ := e; exact ⟨c, v, h', ρ', e0, e1, r, t.subL s, q⟩
  | outgrown => exact e
theorem NextOk.subL {ρ : Rho} {a b : H} {w : World} {k : KV} {kp : KP} (s : SubH a b) {R : Result Next} (e : NextOk P rv rh ρ a w k kp R) : NextOk P rv rh ρ b w k kp R := by
  cases R with
  | ok n w' =>
    cases n with
    | value v => exact Ended.subL (kp := kp) (en := .returned v) s e
    | skip => obtain ⟨h', ρ', e1, r, t⟩ := e; exact ⟨h', ρ', e1, r, t.subL s⟩
    | enter f args => exact Calls.mono e fun en w' he => Ended.subL s he
    | _ => exact e
  | halt hh w' =>
    cases hh with
    | panic v => obtain ⟨c, h', ρ', e1, r, t, q⟩ := e; exact ⟨c, h', ρ', e1, r, t.subL s, q⟩
    | _ => exact e

/-! ### calls that were run before -/
/-- A call, the heap that it needs, what it gives, the heap that it leaves. -/
inductive Me where
  | mk (g : Nat) (xs : List RV) (hi : H) (v : RV) (ho : H) : Me
def MeOk (P : Program) : Me → Prop
  | .mk g xs hi v ho => ∀ {rv : RV} {rh : H} {ρ : Rho} {w : World} {vs : List Value} {k : KV} {kp : KP}, HR P ρ hi w → RRs ρ xs vs → k v ho = .ok rv rh → NextOk P rv rh ρ hi w k kp ((callFunc g vs.toArray).run P w)
noncomputable def memoK (ms : List Me) (f : Nat) (args : List RV) (h : H) (kn : RT) (k : KV) : RT :=
  List.rec (motive := fun _ => RT) kn (fun m _ ih => Me.rec (motive := fun _ => RT) (fun g xs hi v ho => ifB (Nat.beq f g) (ifB (Nat.beq h.nx hi.nx) (rvsSame args xs (hSub hi h (k v ho))) ih) ih) m) ms
noncomputable def callM (cx : Cx) (tb : Tb) (ms : List Me) (n : Nat) : CallT :=
  Nat.rec (motive := fun _ => CallT) (fun _ _ _ _ _ => .err "calls too deep") (fun _ ih f args h k kp => memoK ms f args h (entE cx tb ih f args h k kp) k) n
theorem memoK_ok {ms : List Me} {f : Nat} {args : List RV} {h : H} {kn : RT} {k : KV} (e : memoK ms f args h kn k = .ok rv rh) : kn = .ok rv rh ∨ ∃ hi v ho, .mk f args hi v ho ∈ ms ∧ SubH hi h ∧ k v ho = .ok rv rh := by
  induction ms with
  | nil => exact .inl e
  | cons m ms ih =>
    have up : memoK ms f args h kn k = .ok rv rh → kn = .ok rv rh ∨ ∃ hi v ho, .mk f args hi v ho ∈ m :: ms ∧ SubH hi h ∧ k v ho = .ok rv rh := fun e => by
      rcases ih e with h1 | ⟨hi, v, ho, h1, h2⟩
      · exact .inl h1
      · exact .inr ⟨hi, v, ho, .tail _ h1, h2⟩
    cases m with
    | mk g xs hi v ho =>
      obtain ⟨h1, e1⟩ | ⟨_, e1⟩ := ifB_ok (b := Nat.beq f g) (t := ifB (Nat.beq h.nx hi.nx) (rvsSame args xs (hSub hi h (k v ho))) (memoK ms f args h kn k)) (e := memoK ms f args h kn k) e
      · have := Nat.eq_of_beq_eq_true h1; subst this
        obtain ⟨_, e2⟩ | ⟨_, e2⟩ := ifB_ok e1
        · obtain ⟨rfl, e3⟩ := rvsSame_ok e2
          obtain ⟨hs, e4⟩ := hSub_ok e3
          exact .inr ⟨hi, v, ho, .head _, hs, e4⟩
        · exact up e2
      · exact up e1
theorem callM_ok {cx : Cx} {tb : Tb} (tab : TabOk P cx tb) {ms : List Me} (hm : ∀ m ∈ ms, MeOk P m) : ∀ n, CallOk P (callM cx tb ms n) := by
  intro n
  induction n with
  | zero => intro rv rh ρ h w f args vs k kp r ha e; cases e
  | succ n ih =>
    intro rv rh ρ h w f args vs k kp r ha e
    rcases memoK_ok (kn := entE cx tb (callM cx tb ms n) f args h k kp) e with e0 | ⟨hi, v, ho, h1, h2, h3⟩
    · obtain ⟨x, hx, e1⟩ := entK_ok (cx := cx) (f := f) e0
      cases x with
      | fn fN hk keep dr rs => exact bodyE_ok tab ih (tab.fns f fN hk keep dr rs hx) r ha e1
      | ext j => exact tab.exts f j hx r ha e1
    · exact NextOk.subL h2 (hm _ h1 (HR.sub h2 r) ha h3)

noncomputable def okk : RT := .ok .u (.mk .nil 0)
noncomputable def meK (v : RV) (ho : H) : KV := fun x h => rvSame x v (hSub ho h okk)
noncomputable def meP : KP := fun _ _ => .err "a panic"
/-- A call that is run to its end. -/
theorem MeOk.of_run {call : CallT} (hcall : CallOk P call) {g : Nat} {xs : List RV} {hi : H} {v : RV} {ho : H} (e : call g xs hi (meK v ho) meP = okk) : MeOk P (.mk g xs hi v ho) := by
  intro rv rh ρ w vs k kp r ha e1
  have h1 := hcall (kp := meP) r ha e
  have fin : ∀ {x : RV} {h' : H}, meK v ho x h' = okk → x = v ∧ SubH ho h' := fun {x h'} e2 => by
    obtain ⟨rfl, e3⟩ := rvSame_ok (k := hSub ho h' okk) e2
    exact ⟨rfl, (hSub_ok e3).1⟩
  have fe : ∀ {en : Ending} {w' : World}, Ended P .u (.mk .nil 0) ρ hi w (meK v ho) meP en w' → Ended P rv rh ρ hi w k kp en w' := fun {en w'} he => by
    cases en with
    | returned u =>
      obtain ⟨x, h', ρ', e2, r2, t, q⟩ := he
      obtain ⟨rfl, s⟩ := fin e2
      exact ⟨x, ho, ρ', e1, r2.sub s, t.subR s, q⟩
    | panicked ch => obtain ⟨c, u, h', ρ', _, e2, _⟩ := he; cases e2
    | outgrown => exact he
  cases hR : (callFunc g vs.toArray).run P w with
  | ok n w' =>
    rw [hR] at h1
    cases n with
    | value y => exact fe (en := .returned y) h1
    | skip =>
      obtain ⟨h', ρ', e2, r2, t⟩ := h1
      obtain ⟨hv, s⟩ := fin e2
      subst hv
      exact ⟨ho, ρ', e1, r2.sub s, t.subR s⟩
    | enter f args => exact Calls.mono h1 fun en w' he => fe he
    | _ => exact h1
  | halt hh w' =>
    rw [hR] at h1
    cases hh with
    | panic u => obtain ⟨c, h', ρ', e2, _⟩ := h1; cases e2
    | _ => exact h1
end Go.Ev
end

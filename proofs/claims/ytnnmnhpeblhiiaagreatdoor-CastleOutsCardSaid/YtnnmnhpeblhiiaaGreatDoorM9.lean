/- A part of the proof: a run of the program on abstract values, shown to be a run of the machine. -/
import Derived.Test.YtnnmnhpeblhiiaaGreatDoorM8
set_option linter.unusedVariables false
set_option linter.unusedSimpArgs false
/- Regions made ready ahead. -/
namespace Go.Abs
variable {P : Program}
inductive Gd where
  | no
  | on (x : Ar) (w : Bool)
inductive Ds where
  | no
  | to (p : Pt)
  | loc
inductive CO where
  | mk (g : Gd) (d : Ds) (b : OpC)
  | bad
abbrev KT := FT → Sg → R
abbrev KX := Ex → FT → Sg → R
abbrev KE := Ev → Sg → R
noncomputable def Gd.run (d : Gd) : Ev → R → R → R :=
  Gd.rec (motive := fun _ => Ev → R → R → R) (fun _ y _ => y)
    (fun x w e y n => (x.val e).onBool (Bool.rec (motive := fun _ => R) y n w) (Bool.rec (motive := fun _ => R) n y w) n) d
noncomputable def Ds.run (d : Ds) : AV → Ev → (Ev → R) → R :=
  Ds.rec (motive := fun _ => AV → Ev → (Ev → R) → R) (fun _ e k => k e) (fun p v e k => Ev.rec (motive := fun _ => R) (fun l t => setF v p t fun t => k ⟨l, t⟩) e) (fun v e k => Ev.rec (motive := fun _ => R) (fun l t => k ⟨v :: l, t⟩) e) d
abbrev EX := Cx → Ev → Sg → KE → R
abbrev OX := Cx → FT → Sg → KT → R
noncomputable def runCX (c : CO) : EX :=
  CO.rec (motive := fun _ => EX)
    (fun gd d b x e σ kn => gd.run e (runX b x e σ fun v σ => d.run v e fun e => kn e σ) (d.run (.tup []) e fun e => kn e σ))
    (fun _ _ _ _ => none) c
noncomputable def cGd (gs locs : List Tmp) (ops : Array Oper) (o : Oper) : Option Gd :=
  match o.guard with
  | none => some .no
  | some (j, w) => ((ops[j]?).bind (·.dst)).bind fun d => (cArg gs locs (.tmp d)).map fun a => .on a w
noncomputable def cDs (nt : Nat) (gs : List Tmp) (o : Oper) : Option Ds :=
  match o.dst with
  | none => some .no
  | some d => match idxT gs d with
    | some j => some (.to (pathOf j))
    | none => if d < nt then some .loc else none
def nextL (gs locs : List Tmp) (o : Oper) : List Tmp :=
  match o.dst with
  | none => locs
  | some d => match idxT gs d with
    | some _ => locs
    | none => d :: locs
noncomputable def cOper (P : Program) (nt : Nat) (gs locs : List Tmp) (ops : Array Oper) (o : Oper) : CO :=
  match cGd gs locs ops o, cDs nt gs o with
  | some g, some d => .mk g d (cOp P (cArg gs locs) o)
  | _, _ => .bad
theorem idxT_inj : ∀ {l : List Tmp} {i i' j : Nat}, idxT l i = some j → idxT l i' = some j → i = i'
  | [], _, _, _, h, _ => by cases h
  | k :: r, i, i', j, h, h' => by
    simp only [idxT] at h h'
    split at h <;> split at h'
    · rename_i e1 e2; exact (Nat.eq_of_beq_eq_true e1).symm.trans (Nat.eq_of_beq_eq_true e2)
    · simp only [Option.map_eq_some_iff] at h'; cases h; obtain ⟨_, _, h'⟩ := h'; cases h'
    · simp only [Option.map_eq_some_iff] at h; cases h'; obtain ⟨_, _, h⟩ := h; cases h
    · simp only [Option.map_eq_some_iff] at h h'
      obtain ⟨a, h1, h2⟩ := h
      obtain ⟨b, h3, h4⟩ := h'
      have : a = b := by omega
      subst this
      exact idxT_inj h1 h3
theorem known_arg {nt : Nat} {gs locs : List Tmp} {tm : List AV} {e : Ev} (hr : RelE nt gs locs tm e) {d : Tmp} {a : Ar} (h : cArg gs locs (.tmp d) = some a) : tm[d]? = some (a.val e) := by
  simp only [cArg] at h
  split at h
  · rename_i j hj
    cases h
    obtain ⟨_, v, h1, h2⟩ := hr.lo d j hj
    rw [h2]
    show _ = some (getL e.l j)
    rw [getL_eq, List.getD_eq_getElem?_getD, h1]; rfl
  · simp only [Option.map_eq_some_iff] at h
    obtain ⟨j, h1, rfl⟩ := h
    rw [hr.gl d j h1]
    exact congrArg some (getF_eq ..).symm
theorem gd_some {nt : Nat} {gs locs : List Tmp} {ops : Array Oper} {o : Oper} {gd : Gd} (h : cGd gs locs ops o = some gd) {tm : List AV} {e : Ev} (hre : RelE nt gs locs tm e) {y n : R} {r : Rt × St} (hr : gd.run e y n = some r) :
    (wantedA ops o tm = true ∧ y = some r) ∨ (wantedA ops o tm = false ∧ n = some r) := by
  unfold cGd at h
  unfold wantedA
  cases hg : o.guard with
  | none => rw [hg] at h; cases h; exact .inl ⟨rfl, hr⟩
  | some jw =>
    obtain ⟨j, w⟩ := jw
    rw [hg] at h
    simp only [Option.bind_eq_some_iff, Option.map_eq_some_iff] at h
    obtain ⟨d, ⟨o1, h1, h2⟩, a, h3, rfl⟩ := h
    simp only [h1, Option.bind_some, h2, known_arg hre h3]
    rcases onBool_some (show (a.val e).onBool (Bool.rec (motive := fun _ => R) y n w) (Bool.rec (motive := fun _ => R) n y w) n = some r from hr) with ⟨hv, hr⟩ | ⟨hv, hr⟩ | ⟨hv, hr⟩
    · rw [hv]; cases w
      · exact .inl ⟨rfl, hr⟩
      · exact .inr ⟨rfl, hr⟩
    · rw [hv]; cases w
      · exact .inr ⟨rfl, hr⟩
      · exact .inl ⟨rfl, hr⟩
    · refine .inr ⟨?_, hr⟩
      cases hw : a.val e with
      | bool b => exact absurd hw (hv b)
      | _ => rfl
theorem ds_some {nt : Nat} {gs locs : List Tmp} {o : Oper} {d : Ds} (h : cDs nt gs o = some d) {tm : List AV} {e : Ev} (hre : RelE nt gs locs tm e) {v : AV} {k : Ev → R} {r : Rt × St} (hr : d.run v e k = some r) :
    ∃ e1, RelE nt gs (nextL gs locs o) (putA o.dst v tm) e1 ∧ k e1 = some r := by
  obtain ⟨l, t⟩ := e
  unfold cDs at h
  unfold nextL
  cases hd : o.dst with
  | none => rw [hd] at h; cases h; exact ⟨_, hre, hr⟩
  | some i =>
    rw [hd] at h
    simp only at h ⊢
    simp only [putA, setR_eq]
    cases hi : idxT gs i with
    | some j =>
      simp only [hi] at h ⊢
      cases h
      have hr : setF v (pathOf j) t (fun t => k ⟨l, t⟩) = some r := hr
      rw [setF_eq] at hr
      have hit : i < tm.length := (List.getElem?_eq_some_iff.1 (hre.gl i j hi)).1
      refine ⟨_, ⟨by rw [List.length_set]; exact hre.len, ?_, ?_⟩, hr⟩
      · intro i' j' h'
        rw [List.getElem?_set]
        by_cases e0 : i = i'
        · subst e0
          rw [hi] at h'; cases h'
          rw [if_pos rfl, if_pos hit, T4.get_set_self]
        · rw [if_neg e0, hre.gl i' j' h', T4.get_set_ne]
          intro e1
          have := pathOf_inj.1 e1
          subst this
          exact e0 (idxT_inj hi h')
      · intro i' j' h'
        obtain ⟨h1, w, h2, h3⟩ := hre.lo i' j' h'
        refine ⟨h1, w, h2, ?_⟩
        rw [List.getElem?_set, if_neg (fun e0 => by subst e0; rw [hi] at h1; cases h1)]
        exact h3
    | none =>
      simp only [hi] at h ⊢
      split at h
      · rename_i hlt
        cases h
        refine ⟨⟨v :: l, t⟩, ⟨by rw [List.length_set]; exact hre.len, ?_, ?_⟩, hr⟩
        · intro i' j' h'
          rw [List.getElem?_set, if_neg (fun e0 => by subst e0; rw [hi] at h'; cases h')]
          exact hre.gl i' j' h'
        · intro i' j' h'
          simp only [idxT] at h'
          split at h'
          · rename_i e0
            cases h'
            have e0 : i = i' := Nat.eq_of_beq_eq_true e0
            subst e0
            exact ⟨hi, v, rfl, by rw [List.getElem?_set, if_pos rfl, if_pos (by rw [hre.len]; exact hlt)]⟩
          · rename_i e0
            simp only [Option.map_eq_some_iff] at h'
            obtain ⟨j, h1, rfl⟩ := h'
            obtain ⟨h2, w, h3, h4⟩ := hre.lo i' j h1
            refine ⟨h2, w, h3, ?_⟩
            rw [List.getElem?_set, if_neg (fun e1 => e0 (by subst e1; exact Nat.beq_refl i))]
            exact h4
      · cases h
def frOf (tm : List AV) (g : Aux) : Fr := ⟨tm, g.df, g.rc, g.ro⟩
theorem runCO_ok {callF call : CallF} (hc : CLe callF call) {nt : Nat} {gs locs : List Tmp} {ops : Array Oper} {o : Oper} {kx : KX} {tm : List AV} {e : Ev} (hre : RelE nt gs locs tm e) {g : Aux} {s : St} {kn : KE} {r : Rt × St} (h : runCX (cOper P nt gs locs ops o) ⟨P, callF, kx⟩ e ⟨g, s⟩ kn = some r) :
    ∃ x tm1 g1 s1, opA P call ops o (frOf tm g) s = some (x, frOf tm1 g1, s1) ∧ s.next ≤ s1.next ∧
      (match x with | none => ∃ e1, RelE nt gs (nextL gs locs o) tm1 e1 ∧ kn e1 ⟨g1, s1⟩ = some r | some v => tm1 = tm ∧ kx (.pan v) e.t ⟨g1, s1⟩ = some r) := by
  unfold cOper at h
  split at h
  case h_2 => cases h
  rename_i gd d hgd hd
  rcases gd_some hgd hre (show gd.run e _ _ = some r from h) with ⟨hw, h⟩ | ⟨hw, h⟩
  · obtain ⟨x, s1, h1, h2, h3⟩ := cOp_ok (o := o) (cA := cArg gs locs) hc kx e (arg tm) g s _ r (fun h => cArg_ok hre h) (fun _ => rfl) h
    have ho : ∀ y, opX P call o (arg tm) g.ro g.rc s = some y → opA P call ops o (frOf tm g) s = some (match y.1 with
      | .put v => (none, (frOf tm g).put o.dst v, y.2)
      | .pan v => (some v, frOf tm g, y.2)
      | .dfr d => (none, { frOf tm g with tm := putA o.dst (.tup []) tm, df := d :: g.df }, y.2)
      | .rcv v => (none, { frOf tm g with tm := putA o.dst v tm, rc := g.rc.got v }, y.2)) := by
      intro y hy
      unfold opA
      rw [if_pos (show wantedA ops o (frOf tm g).tm = true from hw)]
      rw [show opX P call o (arg (frOf tm g).tm) (frOf tm g).ro (frOf tm g).rc s = some y from hy]; rfl
    have ho := ho _ h1
    cases x with
    | put v =>
      obtain ⟨e1, h4, h5⟩ := ds_some hd hre (show d.run v e _ = some r from h3)
      exact ⟨none, putA o.dst v tm, g, s1, ho, h2, e1, h4, h5⟩
    | pan v => exact ⟨some v, tm, g, s1, ho, h2, rfl, h3⟩
    | dfr dd =>
      obtain ⟨e1, h4, h5⟩ := ds_some hd hre (show d.run (.tup []) e _ = some r from h3)
      exact ⟨none, putA o.dst (.tup []) tm, ⟨dd :: g.df, g.rc, g.ro⟩, s1, ho, h2, e1, h4, h5⟩
    | rcv v =>
      obtain ⟨e1, h4, h5⟩ := ds_some hd hre (show d.run v e _ = some r from h3)
      exact ⟨none, putA o.dst v tm, ⟨g.df, g.rc.got v, g.ro⟩, s1, ho, h2, e1, h4, h5⟩
  · obtain ⟨e1, h4, h5⟩ := ds_some hd hre h
    refine ⟨none, putA o.dst (.tup []) tm, g, s, ?_, Nat.le_refl _, e1, h4, h5⟩
    unfold opA
    rw [if_neg (by rw [show wantedA ops o (frOf tm g).tm = false from hw]; simp)]
    rfl
noncomputable def cOps (P : Program) (nt : Nat) (gs : List Tmp) (ops : Array Oper) : List Oper → List Tmp → List CO
  | [], _ => []
  | o :: l, locs => cOper P nt gs locs ops o :: cOps P nt gs ops l (nextL gs locs o)
noncomputable def runOX (l : List CO) : EX :=
  List.rec (motive := fun _ => EX) (fun _ e σ kn => kn e σ) (fun c _ ih x e σ kn => runCX c x e σ fun e σ => ih x e σ kn) l
theorem runOps_ok {callF call : CallF} (hc : CLe callF call) {nt : Nat} {gs : List Tmp} {kx : KX} {ops : Array Oper} : ∀ {l : List Oper} {locs : List Tmp} {tm : List AV} {e : Ev} {g : Aux} {s : St} {kn : KE} {r : Rt × St}, RelE nt gs locs tm e → runOX (cOps P nt gs ops l locs) ⟨P, callF, kx⟩ e ⟨g, s⟩ kn = some r →
    ∃ x tm1 locs1 e1 g1 s1, evOps P call ops l (frOf tm g) s = some (x, frOf tm1 g1, s1) ∧ s.next ≤ s1.next ∧ RelE nt gs locs1 tm1 e1 ∧ (match x with | none => kn e1 ⟨g1, s1⟩ = some r | some v => kx (.pan v) e1.t ⟨g1, s1⟩ = some r)
  | [], locs, tm, e, g, s, kn, r, hre, h => ⟨none, tm, locs, e, g, s, rfl, Nat.le_refl _, hre, h⟩
  | o :: l, locs, tm, e, g, s, kn, r, hre, h => by
    obtain ⟨x, tm1, g1, s1, h1, h2, h3⟩ := runCO_ok hc hre (show runCX (cOper P nt gs locs ops o) ⟨P, callF, kx⟩ e ⟨g, s⟩ (fun e σ => runOX (cOps P nt gs ops l (nextL gs locs o)) ⟨P, callF, kx⟩ e σ kn) = some r from h)
    cases x with
    | some v =>
      obtain ⟨rfl, h3⟩ := h3
      exact ⟨some v, tm1, locs, e, g1, s1, by simp only [evOps, h1, Option.bind_some], h2, hre, h3⟩
    | none =>
      obtain ⟨e1, h4, h5⟩ := h3
      obtain ⟨y, tm2, locs2, e2, g2, s2, h6, h7, h8, h9⟩ := runOps_ok hc (l := l) h4 h5
      exact ⟨y, tm2, locs2, e2, g2, s2, by simp only [evOps, h1, Option.bind_some, h6, if_pos h7], Nat.le_trans h2 h7, h8, h9⟩
/-! a region that draws its order -/
theorem stepDE_mono {c1 c2 : CallF} (hc : CLe c1 c2) {ops : Array Oper} {h : Tr Blk} {o : Oper} {m : Nat} {L : List Tmp} {t : List AV} {E : List DE} {c : Nat} {x : DE} (hx : stepDE P c1 ops h o m L t E c = some x) : stepDE P c2 ops h o m L t E c = some x := by
  unfold stepDE at hx ⊢
  by_cases hw : wantedA ops o t = true
  · rw [if_pos hw] at hx ⊢
    cases hr : opX P c1 o (argM L t) (some 0) .no ⟨foldH m.testBit h E, c, []⟩ with
    | none => simp only [hr] at hx; cases hx
    | some q => simp only [hr] at hx; rw [opX_le hc (fun _ _ h => h) hr]; exact hx
  · rw [if_neg hw] at hx ⊢; exact hx
theorem evDrawL_mono {c1 c2 : CallF} (hc : CLe c1 c2) {ops : Array Oper} {h : Tr Blk} : ∀ {l : List (Oper × Nat × List Tmp)} {t : List AV} {E : List DE} {c : Nat} {r : List DE × List AV × Nat}, evDrawL P c1 ops h l t E c = some r → evDrawL P c2 ops h l t E c = some r
  | [], _, _, _, _, hx => hx
  | (o, m, L) :: l, t, E, c, r, hx => by
    simp only [evDrawL, Option.bind_eq_some_iff] at hx ⊢
    obtain ⟨x, h1, h2⟩ := hx
    exact ⟨x, stepDE_mono hc h1, evDrawL_mono hc h2⟩
theorem evDraw_mono {c1 c2 : CallF} (hc : CLe c1 c2) {ops : Array Oper} {fr : Fr} {s : St} {r : Fr × St} (h : evDraw P c1 ops fr s = some r) : evDraw P c2 ops fr s = some r := by
  simp only [evDraw, Option.bind_eq_some_iff, Option.map_eq_some_iff] at h ⊢
  obtain ⟨i, h1, x, h2, h3⟩ := h
  exact ⟨i, h1, x, evDrawL_mono hc h2, h3⟩
end Go.Abs
/- A region that draws its order, the quicker way. -/
namespace Go.Abs
variable {P : Program}
structure WE where
  pos : Nat
  hp : Tr Blk
  lg : List Nat
  ih : Tr Blk
noncomputable def setAllK (g : Tr Blk) (L : List Nat) : Tr Blk → (Tr Blk → R) → R :=
  List.rec (motive := fun _ => Tr Blk → (Tr Blk → R) → R) (fun h k => k h)
    (fun n _ ih h k => Option.rec (motive := fun _ => R) (setH none (pathOf n) h fun h => ih h k) (fun b => setH (some b) (pathOf n) h fun h => ih h k) (getH (pathOf n) g)) L
theorem setAllK_eq (g : Tr Blk) : ∀ (L : List Nat) (h : Tr Blk) (k : Tr Blk → R), setAllK g L h k = k (setAll h g L)
  | [], _, _ => rfl
  | n :: L, h, k => by
    have h1 : setAllK g (n :: L) h k = setAllK g L (h.set n (g.get n)) k := by
      show Option.rec (motive := fun _ => R) (setH none (pathOf n) h fun h => setAllK g L h k) (fun b => setH (some b) (pathOf n) h fun h => setAllK g L h k) (getH (pathOf n) g) = _
      rw [getH_eq]
      show Option.rec (motive := fun _ => R) (setH none (pathOf n) h fun h => setAllK g L h k) (fun b => setH (some b) (pathOf n) h fun h => setAllK g L h k) (g.get n) = _
      cases hg : g.get n with
      | none => exact setH_eq ..
      | some b => exact setH_eq ..
    rw [h1, setAllK_eq g L]; rfl
noncomputable def foldW (m : Nat) (h : Tr Blk) (W : List WE) : Tr Blk :=
  List.rec (motive := fun _ => Tr Blk) h (fun x _ ih => bo (m.testBit x.pos) (setAll ih x.hp x.lg) ih) W
noncomputable def heapW (W : List WE) (h : Tr Blk) : (Tr Blk → R) → R :=
  List.rec (motive := fun _ => (Tr Blk → R) → R) (fun k => k h) (fun x _ ih k => ih fun h => setAllK x.hp x.lg h k) W
noncomputable def logW (W : List WE) (l : List Nat) : List Nat := List.rec (motive := fun _ => List Nat) l (fun x _ ih => x.lg ++ ih) W
inductive RelW (h : Tr Blk) : List DE → List WE → Prop
  | nil : RelW h [] []
  | quiet {E W} (x : DE) : RelW h E W → x.lg = [] → x.m < 2 ^ E.length → x.ih = foldH x.m.testBit h E → RelW h (x :: E) W
  | loud {E W} (x : DE) : RelW h E W → x.m < 2 ^ E.length → x.ih = foldH x.m.testBit h E → RelW h (x :: E) (⟨E.length, x.hp, x.lg, x.ih⟩ :: W)
theorem relW_fold {h : Tr Blk} {E : List DE} {W : List WE} (hr : RelW h E W) (m : Nat) : foldH m.testBit h E = foldW m h W := by
  induction hr with
  | nil => rfl
  | quiet x _ hl _ _ ih =>
    simp only [foldH, hl]
    split
    · exact ih
    · exact ih
  | @loud E W x _ _ _ ih =>
    show (if m.testBit E.length then _ else _) = bo (m.testBit E.length) (setAll (foldW m h W) x.hp x.lg) (foldW m h W)
    rw [bo_eq, ih]
theorem relW_heap {h : Tr Blk} {E : List DE} {W : List WE} (hr : RelW h E W) : ∀ (k : Tr Blk → R), heapW W h k = k (foldH (fun _ => true) h E) := by
  induction hr with
  | nil => intro k; rfl
  | quiet x _ hl _ _ ih => intro k; simp only [foldH, hl, if_true]; exact ih k
  | @loud E W x _ _ _ ih =>
    intro k
    show heapW W h (fun h => setAllK x.hp x.lg h k) = _
    rw [ih]; simp only [foldH, if_true, setAllK_eq]
theorem relW_log {h : Tr Blk} {E : List DE} {W : List WE} (hr : RelW h E W) (l : List Nat) : logW W l = logsOf E l := by
  induction hr with
  | nil => rfl
  | quiet x _ hl _ _ ih => simp only [logsOf, hl, List.nil_append]; exact ih
  | @loud E W x _ _ _ ih =>
    show x.lg ++ logW W l = _
    rw [ih]; rfl
theorem foldH_low {S : Nat → Bool} {h : Tr Blk} {x : DE} {E : List DE} (hs : S E.length = false) : foldH S h (x :: E) = foldH S h E := by simp [foldH, hs]
theorem testBit_hi {m k : Nat} (h : m < 2 ^ k) : m.testBit k = false := Nat.testBit_lt_two_pow h
theorem relW_ih {h : Tr Blk} {E : List DE} {W : List WE} (hr : RelW h E W) : ∀ {i : Nat} {y : DE}, atE E i = some y → y.ih = foldH y.m.testBit h E ∧ y.m < 2 ^ E.length := by
  induction hr with
  | nil => intro i y hy; cases hy
  | @quiet E W x hE hl hm hi ih =>
    intro i y hy
    simp only [atE] at hy
    split at hy
    · cases hy
      exact ⟨by rw [foldH_low (testBit_hi hm)]; exact hi, by rw [List.length_cons, Nat.pow_succ]; omega⟩
    · obtain ⟨h1, h2⟩ := ih hy
      exact ⟨by rw [foldH_low (testBit_hi h2)]; exact h1, by rw [List.length_cons, Nat.pow_succ]; omega⟩
  | @loud E W x hE hm hi ih =>
    intro i y hy
    simp only [atE] at hy
    split at hy
    · cases hy
      exact ⟨by rw [foldH_low (testBit_hi hm)]; exact hi, by rw [List.length_cons, Nat.pow_succ]; omega⟩
    · obtain ⟨h1, h2⟩ := ih hy
      exact ⟨by rw [foldH_low (testBit_hi h2)]; exact h1, by rw [List.length_cons, Nat.pow_succ]; omega⟩
theorem relW_loud {h : Tr Blk} {E : List DE} {W : List WE} (hr : RelW h E W) : ∀ {i : Nat} {y : DE}, atE E i = some y → y.lg = [] ∨ (⟨i, y.hp, y.lg, y.ih⟩ : WE) ∈ W := by
  induction hr with
  | nil => intro i y hy; cases hy
  | @quiet E W x hE hl hm hi ih =>
    intro i y hy
    simp only [atE] at hy
    split at hy
    · cases hy; exact .inl hl
    · exact ih hy
  | @loud E W x hE hm hi ih =>
    intro i y hy
    simp only [atE] at hy
    split at hy
    · rename_i e; cases hy; subst e; exact .inr (List.mem_cons_self ..)
    · rcases ih hy with h1 | h1
      · exact .inl h1
      · exact .inr (List.mem_cons_of_mem _ h1)
/-! the checks -/
noncomputable def noneIn (t : Tr Blk) (L : List Nat) : Bool := List.rec (motive := fun _ => Bool) true (fun n _ ih => Option.rec (motive := fun _ => Bool) ih (fun _ => false) (getH (pathOf n) t)) L
theorem noneIn_ok {t : Tr Blk} : ∀ {L : List Nat}, noneIn t L = true → L.all (fun n => (t.get n).isNone) = true
  | [], _ => rfl
  | n :: L, h => by
    have h : (Option.rec (motive := fun _ => Bool) (noneIn t L) (fun _ => false) (t.get n) : Bool) = true := by
      have h : (Option.rec (motive := fun _ => Bool) (noneIn t L) (fun _ => false) (getH (pathOf n) t) : Bool) = true := h
      rw [getH_eq] at h; exact h
    cases hg : t.get n with
    | some b => rw [hg] at h; cases h
    | none => rw [hg] at h; simp only [List.all_cons, hg, Option.isNone_none, Bool.true_and]; exact noneIn_ok h
/-- what is quiet: nobody unordered has written what it could see -/
noncomputable def chkQ (m : Nat) (ih : Tr Blk) (W : List WE) : Bool :=
  List.rec (motive := fun _ => Bool) true (fun y _ r => bo (m.testBit y.pos) r (bo (noneIn ih y.lg) r false)) W
theorem chkQ_ok {m : Nat} {ih : Tr Blk} : ∀ {W : List WE}, chkQ m ih W = true → ∀ y ∈ W, m.testBit y.pos = false → y.lg.all (fun n => (ih.get n).isNone) = true
  | [], _, y, hy, _ => by cases hy
  | z :: W, h, y, hy, hb => by
    have h : bo (m.testBit z.pos) (chkQ m ih W) (bo (noneIn ih z.lg) (chkQ m ih W) false) = true := h
    rw [bo_eq, bo_eq] at h
    rcases List.mem_cons.1 hy with rfl | hy
    · rw [if_neg (by rw [hb]; simp)] at h
      split at h
      · rename_i h1; exact noneIn_ok h1
      · cases h
    · refine chkQ_ok (W := W) ?_ y hy hb
      split at h
      · exact h
      · split at h
        · exact h
        · cases h
noncomputable def chkL (m : Nat) (lg : List Nat) (W : List WE) : Bool :=
  List.rec (motive := fun _ => Bool) true (fun y _ r => bo (m.testBit y.pos) r (bo (y.lg.all fun n => !lg.contains n) r false)) W
theorem chkL_ok {m : Nat} {lg : List Nat} : ∀ {W : List WE}, chkL m lg W = true → ∀ y ∈ W, m.testBit y.pos = false → (y.lg.all fun n => !lg.contains n) = true
  | [], _, y, hy, _ => by cases hy
  | z :: W, h, y, hy, hb => by
    have h : bo (m.testBit z.pos) (chkL m lg W) (bo (z.lg.all fun n => !lg.contains n) (chkL m lg W) false) = true := h
    rw [bo_eq, bo_eq] at h
    rcases List.mem_cons.1 hy with rfl | hy
    · rw [if_neg (by rw [hb]; simp)] at h
      split at h
      · rename_i h1; exact h1
      · cases h
    · refine chkL_ok (W := W) ?_ y hy hb
      split at h
      · exact h
      · split at h
        · exact h
        · cases h
noncomputable def chkU (h : Tr Blk) (W : List WE) (lg : List Nat) (un : List Nat) : Bool :=
  List.rec (motive := fun _ => Bool) true (fun m _ r => bo (noneIn (foldW m h W) lg) r false) un
theorem chkU_ok {h : Tr Blk} {W : List WE} {lg : List Nat} : ∀ {un : List Nat}, chkU h W lg un = true → ∀ m ∈ un, lg.all (fun n => ((foldW m h W).get n).isNone) = true
  | [], _, m, hm => by cases hm
  | z :: un, hc, m, hm => by
    have hc : bo (noneIn (foldW z h W) lg) (chkU h W lg un) false = true := hc
    rw [bo_eq] at hc
    split at hc
    · rename_i h1
      rcases List.mem_cons.1 hm with rfl | hm
      · exact noneIn_ok h1
      · exact chkU_ok hc m hm
    · cases hc
def unOf (m : Nat) : List (Oper × Nat) → List Nat
  | [] => []
  | y :: r => if m.testBit r.length then unOf m r else if (unOf m r).contains y.2 then unOf m r else y.2 :: unOf m r
theorem unOf_mem {m : Nat} : ∀ {R : List (Oper × Nat)} {i : Nat} {y : Oper × Nat}, atR R i = some y → m.testBit i = false → y.2 ∈ unOf m R
  | [], _, _, h, _ => by cases h
  | z :: R, i, y, h, hb => by
    simp only [atR] at h
    simp only [unOf]
    split at h
    · rename_i e; cases h; subst e
      rw [if_neg (by rw [hb]; simp)]
      split
      · rename_i hc; simpa using hc
      · exact List.mem_cons_self ..
    · have := unOf_mem (m := m) h hb
      split
      · exact this
      · split
        · exact this
        · exact List.mem_cons_of_mem _ this
theorem dyns_of {x : DE} : ∀ {E : List DE}, (∀ i y, atE E i = some y → x.m.testBit i = false → dynB x y = true) → dynsB x E = true
  | [], _ => rfl
  | z :: E, h => by
    simp only [dynsB, Bool.and_eq_true, Bool.or_eq_true]
    refine ⟨?_, dyns_of fun i y hy hb => h i y ?_ hb⟩
    · cases hb : x.m.testBit E.length with
      | true => exact .inl rfl
      | false => exact .inr (h _ z (by simp [atE]) hb)
    · simp only [atE]; rw [if_neg (by have := atE_lt hy; omega)]; exact hy
theorem dynB_of {x y : DE} (h1 : x.lg.all (fun n => (y.ih.get n).isNone) = true) (h2 : y.lg.all (fun n => (x.ih.get n).isNone) = true) (h3 : y.lg.all (fun n => !x.lg.contains n) = true) : dynB x y = true := by
  unfold dynB
  split
  · rfl
  · rw [h1, h2, h3]; rfl
/-! the run -/
structure DOp where
  gd : Gd
  d : Ds
  b : OpC
  m : Nat
  pos : Nat
  un : List Nat
noncomputable def cArgM (gs locs L : List Tmp) : Operand → Option Ar
  | .tmp i => if L.contains i then cArg gs locs (.tmp i) else none
  | x => cArg gs locs x
theorem cArgM_ok {nt : Nat} {gs locs L : List Tmp} {tm : List AV} {e : Ev} (hr : RelE nt gs locs tm e) {x : Operand} {a : Ar} (h : cArgM gs locs L x = some a) : argM L tm x = some (a.val e) := by
  cases x with
  | tmp i =>
    simp only [cArgM] at h
    simp only [argM]
    split at h
    · rename_i hc; rw [if_pos hc]; exact cArg_ok hr h
    · cases h
  | _ => exact cArg_ok hr (by simpa only [cArgM] using h)
noncomputable def cDrawGo (P : Program) (nt : Nat) (gs : List Tmp) (ops : Array Oper) : List (Oper × Nat × List Tmp) → List (Oper × Nat) → List Tmp → Option (List DOp)
  | [], _, _ => some []
  | (o, m, L) :: l, Q, locs => (cGd gs locs ops o).bind fun gd => (cDs nt gs o).bind fun d => if m < 2 ^ Q.length then
      (cDrawGo P nt gs ops l ((o, m) :: Q) (nextL gs locs o)).map (⟨gd, d, cOp P (cArgM gs locs L) o, m, Q.length, unOf m Q⟩ :: ·) else none
def g0 : Aux := ⟨[], .no, some 0⟩
abbrev KD := Ev → List WE → Nat → R
abbrev DX := Cx → Tr Blk → Ev → List WE → Nat → KD → R
noncomputable def drawStep (x : DOp) : DX :=
  DOp.rec (motive := fun _ => DX) (fun gd d b m pos un c h t W n next =>
    gd.run t
      (runX b ⟨c.P, c.call, fun _ _ _ => none⟩ t ⟨g0, ⟨foldW m h W, n, []⟩⟩
        (fun v σ => St.rec (motive := fun _ => R) (fun hp nx lg =>
          List.rec (motive := fun _ => R) (bo (chkQ m (foldW m h W) W) (d.run v t fun t => next t W nx) none)
            (fun _ _ _ => bo (chkQ m (foldW m h W) W) (bo (chkL m lg W) (bo (chkU h W lg un) (d.run v t fun t => next t (⟨pos, hp, lg, foldW m h W⟩ :: W) nx) none) none) none) lg) σ.s))
      (bo (chkQ m (foldW m h W) W) (d.run (.tup []) t fun t => next t W n) none)) x
noncomputable def drawGo (l : List DOp) : DX :=
  List.rec (motive := fun _ => DX) (fun _ _ t W n k => k t W n)
    (fun x _ ih c h t W n k => drawStep x c h t W n fun t W n => ih c h t W n k) l
theorem opX_dfr {call : CallF} {o : Oper} {α : Operand → Option AV} {rc : RC} {s s1 : St} {l : Nat} {x : OR} (h : opX P call o α (some l) rc s = some (x, s1)) : (∃ v, x = .put v) ∨ (∃ v, x = .pan v) := by
  unfold opX at h
  split at h
  · cases h; exact .inl ⟨_, rfl⟩
  · split at h
    · cases h; exact .inl ⟨_, rfl⟩
    · split at h
      · cases h
      · split at h
        · simp only [Option.map_eq_some_iff, Prod.mk.injEq] at h
          obtain ⟨⟨r, _⟩, _, h, _⟩ := h
          subst h
          cases r
          · exact .inl ⟨_, rfl⟩
          · exact .inr ⟨_, rfl⟩
        · simp only [Option.map_eq_some_iff, Prod.mk.injEq] at h
          obtain ⟨v, _, h, _⟩ := h
          exact .inl ⟨v, h.symm⟩
      · simp only [Option.bind_eq_some_iff] at h
        obtain ⟨v, _, h⟩ := h
        split at h
        · cases h; exact .inr ⟨_, rfl⟩
        · cases h
      · cases h
      · cases h
theorem drawStep_ok {callF call : CallF} (hc : CLe callF call) {nt : Nat} {gs locs : List Tmp} {ops : Array Oper} {h : Tr Blk} {o : Oper} {m : Nat} {L : List Tmp} {gd : Gd} {d : Ds} {E : List DE} {W : List WE} (hgd : cGd gs locs ops o = some gd) (hd : cDs nt gs o = some d)
    {tm : List AV} {t : Ev} (hre : RelE nt gs locs tm t) (hr : RelW h E W) (hm : m < 2 ^ E.length) {kx : KX} {next : KD} {c : Nat} {r : Rt × St}
    (hx : drawStep ⟨gd, d, cOp P (cArgM gs locs L) o, m, E.length, unOf m (E.map pr)⟩ ⟨P, callF, kx⟩ h t W c next = some r) :
    ∃ x t1 W1, stepDE P call ops h o m L tm E c = some x ∧ RelE nt gs (nextL gs locs o) (putA x.o.dst x.v tm) t1 ∧ RelW h (x :: E) W1 ∧ pr x = (o, m) ∧ c ≤ x.c' ∧ next t1 W1 x.c' = some r := by
  have hx : gd.run t
      (runX (cOp P (cArgM gs locs L) o) ⟨P, callF, fun _ _ _ => none⟩ t ⟨g0, ⟨foldW m h W, c, []⟩⟩
        (fun v σ => St.rec (motive := fun _ => R) (fun hp nx lg =>
          List.rec (motive := fun _ => R) (bo (chkQ m (foldW m h W) W) (d.run v t fun t => next t W nx) none)
            (fun _ _ _ => bo (chkQ m (foldW m h W) W) (bo (chkL m lg W) (bo (chkU h W lg (unOf m (E.map pr))) (d.run v t fun t => next t (⟨E.length, hp, lg, foldW m h W⟩ :: W) nx) none) none) none) lg) σ.s))
      (bo (chkQ m (foldW m h W) W) (d.run (.tup []) t fun t => next t W c) none) = some r := hx
  have hfold := relW_fold hr m
  have quiet : ∀ x : DE, x.m = m → x.lg = [] → x.ih = foldH m.testBit h E → chkQ m (foldW m h W) W = true → dynsB x E = true := by
    intro x e1 e2 e3 hq
    refine dyns_of fun i y hy hb => ?_
    rw [e1] at hb
    rcases relW_loud hr hy with hl | hl
    · unfold dynB; rw [e2, hl]
    · refine dynB_of (by rw [e2]; rfl) ?_ ?_
      · rw [e3, hfold]; exact chkQ_ok hq _ hl hb
      · rw [e2]; simp
  rcases gd_some hgd hre hx with ⟨hw, hx⟩ | ⟨hw, hx⟩
  · obtain ⟨x, s1, h1, h2, h3⟩ := cOp_ok (o := o) (cA := cArgM gs locs L) hc (fun _ _ _ => none) t (argM L tm) g0 ⟨foldW m h W, c, []⟩ _ r (fun h => cArgM_ok hre h) (fun _ => rfl) hx
    rcases opX_dfr h1 with ⟨v, rfl⟩ | ⟨v, rfl⟩
    case inr => cases h3
    obtain ⟨hp, nx, lg⟩ := s1
    have h2 : c ≤ nx := h2
    have hs : ∀ {b : Bool}, dynsB ⟨o, m, v, hp, lg, c, nx, foldH m.testBit h E⟩ E = true → stepDE P call ops h o m L tm E c = some ⟨o, m, v, hp, lg, c, nx, foldH m.testBit h E⟩ := by
      intro _ hd
      unfold stepDE
      rw [if_pos hw, hfold]
      have h1 : opX P call o (argM L tm) (some 0) .no ⟨foldW m h W, c, []⟩ = some (.put v, ⟨hp, nx, lg⟩) := h1
      rw [h1]
      simp only [if_pos h2, Option.bind_some]
      rw [hfold] at hd
      rw [if_pos hd]
    cases lg with
    | nil =>
      obtain ⟨q1, q2⟩ := bo_some (show bo (chkQ m (foldW m h W) W) (d.run v t fun t => next t W nx) none = some r from h3)
      obtain ⟨t1, q3, q4⟩ := ds_some hd hre q2
      exact ⟨_, t1, W, hs (b := true) (quiet _ rfl rfl rfl q1), q3, .quiet _ hr rfl hm rfl, rfl, h2, q4⟩
    | cons n lg =>
      obtain ⟨q1, q2⟩ := bo_some (show bo (chkQ m (foldW m h W) W) (bo (chkL m (n :: lg) W) (bo (chkU h W (n :: lg) (unOf m (E.map pr))) (d.run v t fun t => next t (⟨E.length, hp, n :: lg, foldW m h W⟩ :: W) nx) none) none) none = some r from h3)
      obtain ⟨q3, q4⟩ := bo_some q2
      obtain ⟨q5, q6⟩ := bo_some q4
      obtain ⟨t1, q7, q8⟩ := ds_some hd hre q6
      refine ⟨_, t1, ⟨E.length, hp, n :: lg, foldH m.testBit h E⟩ :: W, hs (b := true) (dyns_of fun i y hy hb => ?_), q7, .loud ⟨o, m, v, hp, n :: lg, c, nx, foldH m.testBit h E⟩ hr hm rfl, rfl, h2, by rw [hfold]; exact q8⟩
      have hb : m.testBit i = false := hb
      have hyi := relW_ih hr hy
      have hmem : y.m ∈ unOf m (E.map pr) := unOf_mem (y := pr y) (by rw [atR_map, hy]; rfl) hb
      have a1 : (n :: lg).all (fun n => (y.ih.get n).isNone) = true := by
        rw [hyi.1, relW_fold hr]; exact chkU_ok q5 _ hmem
      rcases relW_loud hr hy with hl | hl
      · exact dynB_of a1 (by rw [hl]; rfl) (by rw [hl]; rfl)
      · exact dynB_of a1 (by show y.lg.all (fun n => ((foldH m.testBit h E).get n).isNone) = true; rw [hfold]; exact chkQ_ok q1 _ hl hb) (chkL_ok q3 _ hl hb)
  · obtain ⟨q1, q2⟩ := bo_some hx
    obtain ⟨t1, q3, q4⟩ := ds_some hd hre q2
    refine ⟨⟨o, m, .tup [], foldH m.testBit h E, [], c, c, foldH m.testBit h E⟩, t1, W, ?_, q3, .quiet _ hr rfl hm rfl, rfl, Nat.le_refl _, q4⟩
    unfold stepDE
    rw [if_neg (by rw [hw]; simp)]
    simp only [Option.bind_some]
    rw [if_pos (quiet _ rfl rfl rfl q1)]
theorem drawGo_ok {callF call : CallF} (hc : CLe callF call) {nt : Nat} {gs : List Tmp} {kx : KX} {ops : Array Oper} {h : Tr Blk} : ∀ {l : List (Oper × Nat × List Tmp)} {dl : List DOp} {locs : List Tmp} {E : List DE} {W : List WE} {tm : List AV} {t : Ev} {c : Nat} {k : KD} {r : Rt × St},
    cDrawGo P nt gs ops l (E.map pr) locs = some dl → RelE nt gs locs tm t → RelW h E W → drawGo dl ⟨P, callF, kx⟩ h t W c k = some r →
    ∃ E1 tm1 locs1 t1 W1 c1, evDrawL P call ops h l tm E c = some (E1, tm1, c1) ∧ RelE nt gs locs1 tm1 t1 ∧ RelW h E1 W1 ∧ c ≤ c1 ∧ k t1 W1 c1 = some r
  | [], dl, locs, E, W, tm, t, c, k, r, hd, hre, hr, hx => by
    cases hd; exact ⟨E, tm, locs, t, W, c, rfl, hre, hr, Nat.le_refl _, hx⟩
  | (o, m, L) :: l, dl, locs, E, W, tm, t, c, k, r, hd, hre, hr, hx => by
    simp only [cDrawGo, Option.bind_eq_some_iff] at hd
    obtain ⟨gd, h1, d, h2, hd⟩ := hd
    split at hd
    case isFalse => cases hd
    rename_i hm
    simp only [Option.map_eq_some_iff, List.length_map] at hd hm
    obtain ⟨dl1, h3, rfl⟩ := hd
    obtain ⟨x, t1, W1, q1, q2, q3, q4, q5, q6⟩ := drawStep_ok hc h1 h2 hre hr hm (show drawStep ⟨gd, d, cOp P (cArgM gs locs L) o, m, E.length, unOf m (E.map pr)⟩ ⟨P, callF, kx⟩ h t W c (fun t W c => drawGo dl1 ⟨P, callF, kx⟩ h t W c k) = some r from hx)
    obtain ⟨E2, tm2, locs2, t2, W2, c2, z1, z0, z2, z3, z4⟩ := drawGo_ok hc (l := l) (dl := dl1) (E := x :: E) (by rw [List.map_cons, q4]; exact h3) q2 q3 q6
    exact ⟨E2, tm2, locs2, t2, W2, c2, by simp only [evDrawL, q1, Option.bind_some]; exact z1, z0, z2, Nat.le_trans q5 z3, z4⟩
noncomputable def cDraw (P : Program) (nt : Nat) (gs : List Tmp) (ops : Array Oper) : Option (List DOp) :=
  if P.follows .mixedOrders then (infoGo ops ops.toList []).bind fun inf => cDrawGo P nt gs ops inf [] [] else none
noncomputable def drawRun (l : List DOp) : EX := fun c e σ kn =>
  inS σ fun h nx lg up => drawGo l c h e [] nx fun e W n => heapW W h fun h => kn e (up h n (logW W lg))
theorem drawRun_ok {callF call : CallF} (hc : CLe callF call) {nt : Nat} {gs : List Tmp} {kx : KX} {ops : Array Oper} {l : List DOp} (hl : cDraw P nt gs ops = some l) {tm : List AV} {t : Ev} (hre : RelE nt gs [] tm t) {g : Aux} {s : St} {kn : KE} {r : Rt × St} (h : drawRun l ⟨P, callF, kx⟩ t ⟨g, s⟩ kn = some r) :
    ∃ tm1 locs1 t1 s1, P.follows .mixedOrders = true ∧ evDraw P call ops (frOf tm g) s = some (frOf tm1 g, s1) ∧ RelE nt gs locs1 tm1 t1 ∧ s.next ≤ s1.next ∧ kn t1 ⟨g, s1⟩ = some r := by
  unfold cDraw at hl
  split at hl
  case isFalse => cases hl
  rename_i hf
  simp only [Option.bind_eq_some_iff] at hl
  obtain ⟨inf, h1, h2⟩ := hl
  obtain ⟨hp, nx, lg⟩ := s
  obtain ⟨E1, tm1, locs1, t1, W1, c1, q1, q0, q2, q3, q4⟩ := drawGo_ok hc (E := []) h2 hre .nil (show drawGo l ⟨P, callF, kx⟩ hp t [] nx (fun t W c => heapW W hp fun h => kn t ⟨g, ⟨h, c, logW W lg⟩⟩) = some r from h)
  rw [relW_heap q2, relW_log q2] at q4
  refine ⟨tm1, locs1, t1, _, hf, ?_, q0, q3, q4⟩
  simp only [evDraw, h1, Option.bind_some]
  rw [show (frOf tm g).tm = tm from rfl, q1]
  rfl
end Go.Abs
/- Code made ready ahead: its run. -/
namespace Go.Abs
variable {P : Program}
inductive KC where
  | skip
  | exit (id : Nat)
  | ret
  | ops (l : List CO)
  | draw (l : List DOp)
  | seq (a b : KC)
  | cond (x : Ar) (a b : KC)
  | block (id : Nat) (a : KC)
  | scope (a : KC)
  | loop (a : KC)
  | rangeF (x : Ar) (nt : Nat) (gs : List Tmp) (ps : Array Tmp) (aas bd : Code)
  | bad
def fullG (nt : Nat) (gs : List Tmp) : Bool := (List.range nt).all fun i => (idxT gs i).isSome
noncomputable def comp (P : Program) (nt : Nat) (gs : List Tmp) : Code → KC
  | .skip | .label _ => .skip
  | .exit id => .exit id
  | .ret => .ret
  | .region _ ops false => .ops (cOps P nt gs ops ops.toList [])
  | .region _ ops true => match cDraw P nt gs ops with | some l => .draw l | none => .bad
  | .seq a b => .seq (comp P nt gs a) (comp P nt gs b)
  | .cond c a b => match cArg gs [] c with | some x => .cond x (comp P nt gs a) (comp P nt gs b) | none => .bad
  | .block id a => .block id (comp P nt gs a)
  | .scope a => .scope (comp P nt gs a)
  | .loop a => .loop (comp P nt gs a)
  | .rangeFunc g ps aas bd => if fullG nt gs then match cArg gs [] g with | some x => .rangeF x nt gs ps aas bd | none => .bad else .bad
  | _ => .bad
noncomputable def toLG (nt : Nat) (gs : List Tmp) (t : FT) : List AV := (List.range nt).map fun i => match idxT gs i with | some j => T4.get (.tup []) (pathOf j) t | none => .tup []
abbrev RelF (nt : Nat) (gs : List Tmp) (tm : List AV) (t : FT) : Prop := RelE nt gs [] tm ⟨[], t⟩
theorem RelE.forget {nt : Nat} {gs locs : List Tmp} {tm : List AV} {e : Ev} (h : RelE nt gs locs tm e) : RelF nt gs tm e.t := ⟨h.len, h.gl, fun _ _ h => by cases h⟩
theorem toLG_eq {nt : Nat} {gs : List Tmp} {tm : List AV} {t : FT} (h : RelF nt gs tm t) (hf : fullG nt gs = true) : tm = toLG nt gs t := by
  apply List.ext_getElem?
  intro i
  by_cases hi : i < nt
  · simp only [fullG, List.all_eq_true, List.mem_range] at hf
    obtain ⟨j, hj⟩ := Option.isSome_iff_exists.1 (hf i hi)
    rw [h.gl i j hj]
    simp [toLG, hi, hj]
  · rw [List.getElem?_eq_none (by rw [h.len]; omega), List.getElem?_eq_none (by simp [toLG]; omega)]
noncomputable def exK (x : Ex) (kn : KT) (kx : KX) : KT := Ex.rec (motive := fun _ => KT) kn (fun id => kx (.exit id)) (kx .ret) (fun v => kx (.pan v)) x
noncomputable def rangeRun (x : Ar) (nt : Nat) (gs : List Tmp) (ps : Array Tmp) (aas bd : Code) : OX := fun c t σ kn =>
  match x.val ⟨[], t⟩ with
  | .func f first cap => bo (enterable c.P f) (ob (enterA (frOf (toLG nt gs t) σ.g) ps aas bd σ.s) fun q => ob (c.call (.fn f) (first ++ [.yld q.1] ++ cap) q.2.2) fun r =>
      bo (Nat.ble q.2.2.next r.2.next) (bo (Nat.ble σ.s.next r.2.next)
        (match r.1 with
        | .pan v => c.kx (.pan v) t ⟨⟨q.2.1.df, q.2.1.rc, q.2.1.ro⟩, r.2⟩
        | .ret _ => ob (leaveLoopA q.1 r.2) fun y => bo (Nat.ble σ.s.next y.2.next) (exK y.1 kn c.kx t ⟨⟨q.2.1.df, q.2.1.rc, q.2.1.ro⟩, y.2⟩) none) none) none) none
  | _ => none
noncomputable def blockX (id : Nat) (c : Cx) (kn : KT) : Cx :=
  Cx.rec (motive := fun _ => Cx) (fun P call kx => ⟨P, call, fun x t σ => Ex.rec (motive := fun _ => R) none (fun j => bo (Nat.beq j id) (kn t σ) (kx (.exit j) t σ)) (kx .ret t σ) (fun v => kx (.pan v) t σ) x⟩) c
noncomputable def runKX (n : Nat) : KC → OX :=
  Nat.rec (motive := fun _ => KC → OX) (fun _ _ _ _ _ => none) (fun _ ih c =>
    KC.rec (motive := fun _ => (KC → OX) → OX)
      (fun _ _ t σ kn => kn t σ)
      (fun id _ c t σ _ => c.kx (.exit id) t σ)
      (fun _ c t σ _ => c.kx .ret t σ)
      (fun l _ c t σ kn => runOX l c ⟨[], t⟩ σ fun e σ => Ev.rec (motive := fun _ => R) (fun _ t => kn t σ) e)
      (fun l _ c t σ kn => drawRun l c ⟨[], t⟩ σ fun e σ => Ev.rec (motive := fun _ => R) (fun _ t => kn t σ) e)
      (fun a b _ _ ih c t σ kn => ih a c t σ fun t σ => ih b c t σ kn)
      (fun x a b _ _ ih c t σ kn => (x.val ⟨[], t⟩).onBool (ih b c t σ kn) (ih a c t σ kn) none)
      (fun id a _ ih c t σ kn => ih a (blockX id c kn) t σ kn)
      (fun a _ ih => ih a)
      (fun a _ ih c t σ kn => ih a c t σ fun t σ => ih (.loop a) c t σ kn)
      (fun x nt gs ps aas bd _ => rangeRun x nt gs ps aas bd)
      (fun _ _ _ _ _ => none) c ih) n
theorem runK_ok {callF call : CallF} (hc : CLe callF call) {nt : Nat} {gs : List Tmp} : ∀ (n : Nat) (c : Code) {t : FT} {tm : List AV} {g : Aux} {s : St} {kn : KT} {kx : KX} {r : Rt × St}, RelF nt gs tm t → runKX n (comp P nt gs c) ⟨P, callF, kx⟩ t ⟨g, s⟩ kn = some r →
    ∃ x tm1 t1 g1 s1, evCode P call n c (frOf tm g) s = some (x, frOf tm1 g1, s1) ∧ RelF nt gs tm1 t1 ∧ s.next ≤ s1.next ∧ exK x kn kx t1 ⟨g1, s1⟩ = some r
  | 0, c, t, tm, g, s, kn, kx, r, hre, h => by cases h
  | n + 1, c, t, tm, g, s, kn, kx, r, hre, h => by
    have ih := @runK_ok callF call hc nt gs n
    cases c with
    | skip => exact ⟨.norm, tm, t, g, s, rfl, hre, Nat.le_refl _, h⟩
    | label l => exact ⟨.norm, tm, t, g, s, rfl, hre, Nat.le_refl _, h⟩
    | exit id => exact ⟨.exit id, tm, t, g, s, rfl, hre, Nat.le_refl _, h⟩
    | ret => exact ⟨.ret, tm, t, g, s, rfl, hre, Nat.le_refl _, h⟩
    | region id ops d =>
      cases d with
      | false =>
        obtain ⟨x, tm1, locs1, e1, g1, s1, h1, h2, h3, h4⟩ := runOps_ok hc hre (show runOX (cOps P nt gs ops ops.toList []) ⟨P, callF, kx⟩ ⟨[], t⟩ ⟨g, s⟩ (fun e σ => Ev.rec (motive := fun _ => R) (fun _ t => kn t σ) e) = some r from h)
        cases x with
        | none => exact ⟨.norm, tm1, e1.t, g1, s1, by simp only [evCode, h1, Option.map_some], h3.forget, h2, h4⟩
        | some v => exact ⟨.pan v, tm1, e1.t, g1, s1, by simp only [evCode, h1, Option.map_some], h3.forget, h2, h4⟩
      | true =>
        simp only [comp] at h
        split at h
        case h_2 => cases h
        rename_i l hl
        obtain ⟨tm1, locs1, e1, s1, h0, h1, h2, h3, h4⟩ := drawRun_ok hc hl hre (show drawRun l ⟨P, callF, kx⟩ ⟨[], t⟩ ⟨g, s⟩ (fun e σ => Ev.rec (motive := fun _ => R) (fun _ t => kn t σ) e) = some r from h)
        exact ⟨.norm, tm1, e1.t, g, s1, by simp only [evCode, h0, if_true, h1, Option.map_some], h2.forget, h3, h4⟩
    | seq a b =>
      obtain ⟨x, tm1, t1, g1, s1, h1, hr1, h2, h3⟩ := ih a hre (show runKX n (comp P nt gs a) ⟨P, callF, kx⟩ t ⟨g, s⟩ (fun t σ => runKX n (comp P nt gs b) ⟨P, callF, kx⟩ t σ kn) = some r from h)
      cases x with
      | norm =>
        obtain ⟨y, tm2, t2, g2, s2, h4, hr2, h5, h6⟩ := ih b hr1 h3
        exact ⟨y, tm2, t2, g2, s2, by simp only [evCode, h1, Option.bind_some, h4, if_pos h5], hr2, Nat.le_trans h2 h5, h6⟩
      | exit id => exact ⟨.exit id, tm1, t1, g1, s1, by simp only [evCode, h1, Option.bind_some], hr1, h2, h3⟩
      | ret => exact ⟨.ret, tm1, t1, g1, s1, by simp only [evCode, h1, Option.bind_some], hr1, h2, h3⟩
      | pan v => exact ⟨.pan v, tm1, t1, g1, s1, by simp only [evCode, h1, Option.bind_some], hr1, h2, h3⟩
    | cond c a b =>
      simp only [comp] at h
      split at h
      case h_2 => cases h
      rename_i x hx
      have harg : arg (frOf tm g).tm c = some (x.val ⟨[], t⟩) := cArg_ok hre hx
      rcases onBool_some (show (x.val ⟨[], t⟩).onBool (runKX n (comp P nt gs b) ⟨P, callF, kx⟩ t ⟨g, s⟩ kn) (runKX n (comp P nt gs a) ⟨P, callF, kx⟩ t ⟨g, s⟩ kn) none = some r from h) with ⟨hv, h⟩ | ⟨hv, h⟩ | ⟨_, h⟩
      · obtain ⟨y, tm2, t2, g2, s2, h4, hr2, h5, h6⟩ := ih b hre h
        exact ⟨y, tm2, t2, g2, s2, by simp only [evCode, harg, hv, Option.bind_some, Bool.false_eq_true, if_false]; exact h4, hr2, h5, h6⟩
      · obtain ⟨y, tm2, t2, g2, s2, h4, hr2, h5, h6⟩ := ih a hre h
        exact ⟨y, tm2, t2, g2, s2, by simp only [evCode, harg, hv, Option.bind_some, if_true]; exact h4, hr2, h5, h6⟩
      · cases h
    | block id a =>
      obtain ⟨x, tm1, t1, g1, s1, h1, hr1, h2, h3⟩ := ih a hre (show runKX n (comp P nt gs a) ⟨P, callF, fun x t σ => Ex.rec (motive := fun _ => R) none (fun j => bo (Nat.beq j id) (kn t σ) (kx (.exit j) t σ)) (kx .ret t σ) (fun v => kx (.pan v) t σ) x⟩ t ⟨g, s⟩ kn = some r from h)
      cases x with
      | norm => exact ⟨.norm, tm1, t1, g1, s1, by simp only [evCode, h1, Option.map_some], hr1, h2, h3⟩
      | exit j =>
        have h3 : bo (Nat.beq j id) (kn t1 ⟨g1, s1⟩) (kx (.exit j) t1 ⟨g1, s1⟩) = some r := h3
        rcases boo h3 with ⟨hj, h3⟩ | ⟨hj, h3⟩
        · have hj : j = id := Nat.eq_of_beq_eq_true hj
          exact ⟨.norm, tm1, t1, g1, s1, by simp only [evCode, h1, Option.map_some, hj, if_true], hr1, h2, h3⟩
        · have hj : j ≠ id := Nat.ne_of_beq_eq_false hj
          exact ⟨.exit j, tm1, t1, g1, s1, by simp only [evCode, h1, Option.map_some, if_neg hj], hr1, h2, h3⟩
      | ret => exact ⟨.ret, tm1, t1, g1, s1, by simp only [evCode, h1, Option.map_some], hr1, h2, h3⟩
      | pan v => exact ⟨.pan v, tm1, t1, g1, s1, by simp only [evCode, h1, Option.map_some], hr1, h2, h3⟩
    | scope a =>
      obtain ⟨x, tm1, t1, g1, s1, h1, hr1, h2, h3⟩ := ih a hre (show runKX n (comp P nt gs a) ⟨P, callF, kx⟩ t ⟨g, s⟩ kn = some r from h)
      exact ⟨x, tm1, t1, g1, s1, by simp only [evCode]; exact h1, hr1, h2, h3⟩
    | loop a =>
      obtain ⟨x, tm1, t1, g1, s1, h1, hr1, h2, h3⟩ := ih a hre (show runKX n (comp P nt gs a) ⟨P, callF, kx⟩ t ⟨g, s⟩ (fun t σ => runKX n (comp P nt gs (.loop a)) ⟨P, callF, kx⟩ t σ kn) = some r from h)
      cases x with
      | norm =>
        obtain ⟨y, tm2, t2, g2, s2, h4, hr2, h5, h6⟩ := ih (.loop a) hr1 h3
        exact ⟨y, tm2, t2, g2, s2, by simp only [evCode, h1, Option.bind_some, h4, if_pos h5], hr2, Nat.le_trans h2 h5, h6⟩
      | exit id => exact ⟨.exit id, tm1, t1, g1, s1, by simp only [evCode, h1, Option.bind_some], hr1, h2, h3⟩
      | ret => exact ⟨.ret, tm1, t1, g1, s1, by simp only [evCode, h1, Option.bind_some], hr1, h2, h3⟩
      | pan v => exact ⟨.pan v, tm1, t1, g1, s1, by simp only [evCode, h1, Option.bind_some], hr1, h2, h3⟩
    | rangeFunc f ps aas bd =>
      simp only [comp] at h
      split at h
      case isFalse => cases h
      rename_i hfull
      split at h
      case h_2 => cases h
      rename_i x hx
      have h : rangeRun x nt gs ps aas bd ⟨P, callF, kx⟩ t ⟨g, s⟩ kn = some r := h
      have harg : arg (frOf tm g).tm f = some (x.val ⟨[], t⟩) := cArg_ok hre hx
      unfold rangeRun at h
      rw [← toLG_eq hre hfull] at h
      split at h
      case h_2 => cases h
      rename_i fid first cap hv
      obtain ⟨h1, h⟩ := bo_some h
      obtain ⟨⟨l, fr1, s1⟩, h2, h⟩ := ob_some h
      obtain ⟨⟨rt, s2⟩, h3, h⟩ := ob_some h
      obtain ⟨h4, h⟩ := bo_some h
      obtain ⟨h5, h⟩ := bo_some h
      replace h3 := hc _ _ _ _ h3
      replace h4 : s1.next ≤ s2.next := Nat.le_of_ble_eq_true h4
      replace h5 : s.next ≤ s2.next := Nat.le_of_ble_eq_true h5
      have hfr : fr1 = frOf tm ⟨fr1.df, fr1.rc, fr1.ro⟩ := by
        unfold enterA at h2
        split at h2
        · simp only [Option.some.injEq, Prod.mk.injEq] at h2
          obtain ⟨_, rfl, _⟩ := h2; rfl
        · simp only [Option.map_eq_some_iff, Prod.mk.injEq] at h2
          obtain ⟨_, _, _, rfl, _⟩ := h2; rfl
      have hev : ∀ q, (match rt with | .pan v => some (Ex.pan v, fr1, s2) | .ret _ => (leaveLoopA l s2).map fun y => (y.1, fr1, y.2)) = some q → evCode P call (n + 1) (.rangeFunc f ps aas bd) (frOf tm g) s = some q := by
        intro q hq
        rw [← hq]
        simp only [evCode]
        rw [harg, hv]
        simp only [Option.bind_some, h1, if_true, h2, h3, if_pos h4]
        cases rt <;> rfl
      cases rt with
      | pan v => exact ⟨.pan v, tm, t, ⟨fr1.df, fr1.rc, fr1.ro⟩, s2, by rw [hev _ rfl, ← hfr], hre, h5, h⟩
      | ret v =>
        obtain ⟨⟨y, s3⟩, h6, h7⟩ := ob_some (show ob (leaveLoopA l s2) _ = some r from h)
        obtain ⟨h8, h9⟩ := bo_some h7
        refine ⟨y, tm, t, ⟨fr1.df, fr1.rc, fr1.ro⟩, s3, ?_, hre, Nat.le_of_ble_eq_true h8, h9⟩
        rw [hev (y, fr1, s3) (by simp only [h6, Option.map_some]), ← hfr]
    | goto l => cases h
    | refuse w => cases h
end Go.Abs
/- Calls, the quicker way. -/
namespace Go.Abs
variable {P : Program}
theorem opA_mono {c1 c2 : CallF} (hc : CLe c1 c2) {ops : Array Oper} {o : Oper} {fr : Fr} {s : St} {r : Option AV × Fr × St} (h : opA P c1 ops o fr s = some r) : opA P c2 ops o fr s = some r := by
  unfold opA at h ⊢
  by_cases hw : wantedA ops o fr.tm = true
  · rw [if_pos hw] at h ⊢
    simp only [Option.map_eq_some_iff] at h ⊢
    obtain ⟨x, h1, h2⟩ := h
    exact ⟨x, opX_le hc (fun _ _ h => h) h1, h2⟩
  · rw [if_neg hw] at h ⊢; exact h
theorem evOps_mono {c1 c2 : CallF} (hc : CLe c1 c2) {ops : Array Oper} : ∀ {l : List Oper} {fr : Fr} {s : St} {r : Option AV × Fr × St}, evOps P c1 ops l fr s = some r → evOps P c2 ops l fr s = some r
  | [], _, _, _, h => h
  | o :: l, fr, s, r, h => by
    simp only [evOps, Option.bind_eq_some_iff] at h ⊢
    obtain ⟨⟨x, fr1, s1⟩, h1, h2⟩ := h
    refine ⟨_, opA_mono hc h1, ?_⟩
    cases x with
    | some v => exact h2
    | none =>
      simp only [Option.bind_eq_some_iff] at h2 ⊢
      obtain ⟨y, h3, h4⟩ := h2
      exact ⟨y, evOps_mono hc h3, h4⟩
theorem evCode_mono {c1 c2 : CallF} (hc : CLe c1 c2) : ∀ {n : Nat} {c : Code} {fr : Fr} {s : St} {r : Ex × Fr × St}, evCode P c1 n c fr s = some r → evCode P c2 n c fr s = some r
  | 0, _, _, _, _, h => by cases h
  | n + 1, c, fr, s, r, h => by
    have ih := @evCode_mono c1 c2 hc n
    have two : ∀ {a b : Code}, ((evCode P c1 n a fr s).bind fun r => match r with
      | (.norm, fr1, s1) => (evCode P c1 n b fr1 s1).bind fun y => if s1.next ≤ y.2.2.next then some y else none
      | r => some r) = some r → ((evCode P c2 n a fr s).bind fun r => match r with
      | (.norm, fr1, s1) => (evCode P c2 n b fr1 s1).bind fun y => if s1.next ≤ y.2.2.next then some y else none
      | r => some r) = some r := by
      intro a b h
      simp only [Option.bind_eq_some_iff] at h ⊢
      obtain ⟨⟨x, fr1, s1⟩, h1, h2⟩ := h
      refine ⟨_, ih h1, ?_⟩
      cases x with
      | norm =>
        simp only [Option.bind_eq_some_iff] at h2 ⊢
        obtain ⟨y, h3, h4⟩ := h2
        exact ⟨y, ih h3, h4⟩
      | _ => exact h2
    cases c with
    | region id ops d =>
      cases d with
      | false =>
        simp only [evCode, Option.map_eq_some_iff] at h ⊢
        obtain ⟨x, h1, h2⟩ := h
        exact ⟨x, evOps_mono hc h1, h2⟩
      | true =>
        simp only [evCode] at h ⊢
        by_cases hp : P.follows .mixedOrders = true
        · rw [if_pos hp] at h ⊢
          simp only [Option.map_eq_some_iff] at h ⊢
          obtain ⟨x, h1, h2⟩ := h
          exact ⟨x, evDraw_mono hc h1, h2⟩
        · rw [if_neg hp] at h; cases h
    | seq a b => simp only [evCode] at h ⊢; exact two h
    | cond c a b =>
      simp only [evCode, Option.bind_eq_some_iff] at h ⊢
      obtain ⟨v, h1, h2⟩ := h
      refine ⟨v, h1, ?_⟩
      cases v with
      | bool b => exact ih h2
      | _ => exact h2
    | block id a =>
      simp only [evCode, Option.map_eq_some_iff] at h ⊢
      obtain ⟨x, h1, h2⟩ := h
      exact ⟨x, ih h1, h2⟩
    | scope a => simp only [evCode] at h ⊢; exact ih h
    | loop a => simp only [evCode] at h ⊢; exact two h
    | rangeFunc g ps aas bd =>
      simp only [evCode, Option.bind_eq_some_iff] at h ⊢
      obtain ⟨v, h1, h2⟩ := h
      refine ⟨v, h1, ?_⟩
      cases v with
      | func f first cap =>
        by_cases hp : enterable P f = true
        · simp only [hp, if_true, Option.bind_eq_some_iff] at h2 ⊢
          obtain ⟨x, h3, y, h4, h5⟩ := h2
          exact ⟨x, h3, y, hc _ _ _ _ h4, h5⟩
        · simp only [hp] at h2; exact absurd h2 nofun
      | _ => exact h2
    | _ => exact h
theorem leaveA_mono {c1 c2 : CallF} (hc : CLe c1 c2) {K : Nat} {fn : Func} {tm : List AV} : ∀ {ds : List Dfr} {p : Option AV} {I : St} {r : Rt × St}, leaveA P c1 K fn tm ds p I = some r → leaveA P c2 K fn tm ds p I = some r
  | [], none, _, _, h => h
  | [], some _, _, _, h => h
  | .coll d :: ds, p, I, r, h => by
    simp only [leaveA] at h ⊢
    split at h
    · rename_i hd; exact leaveA_mono hc h
    · cases h
  | .fn f aas cs :: ds, p, I, r, h => by
    simp only [leaveA] at h ⊢
    by_cases hp : enterable P f = true
    · simp only [hp, if_true, Option.bind_eq_some_iff] at h ⊢
      obtain ⟨g, h1, body, h2, ⟨x, fr, I1⟩, h3, h4⟩ := h
      refine ⟨g, h1, body, h2, _, evCode_mono hc h3, ?_⟩
      split at h4
      · simp only [Option.bind_eq_some_iff] at h4 ⊢
        obtain ⟨q, h5, y, h6, h7⟩ := h4
        exact ⟨q, h5, y, leaveA_mono hc h6, h7⟩
      · simp only [Option.bind_eq_some_iff] at h4 ⊢
        obtain ⟨q, h5, y, h6, h7⟩ := h4
        exact ⟨q, h5, y, leaveA_mono hc h6, h7⟩
      · cases h4
    · simp only [hp] at h; exact absurd h nofun
/-! results -/
noncomputable def oneOr (vs : List AV) : AV := List.rec (motive := fun _ => AV) (.tup []) (fun v tl _ => List.rec (motive := fun _ => AV) v (fun _ _ _ => .tup vs) tl) vs
theorem resultsA_eq {fn : Func} {tm : List AV} {I : St} : resultsA P fn tm I = (resL P tm I fn.results.toList).map oneOr := by
  unfold resultsA
  congr 1
  funext vs
  cases vs with
  | nil => rfl
  | cons v vs => cases vs <;> rfl
inductive RV where
  | t (p : Pt)
  | c (p : Pt) (t : TypeId)
noncomputable def cRes (gs : List Tmp) : List ResultVar → Option (List RV)
  | [] => some []
  | .tmp t :: r => (idxT gs t).bind fun j => (cRes gs r).map (.t (pathOf j) :: ·)
  | .cell a t :: r => (idxT gs a).bind fun j => (cRes gs r).map (.c (pathOf j) t :: ·)
noncomputable def resK (P : Program) (l : List RV) : FT → St → (List AV → R) → R :=
  List.rec (motive := fun _ => FT → St → (List AV → R) → R) (fun _ _ k => k [])
    (fun v _ ih t I k => RV.rec (motive := fun _ => R) (fun p => (getF p t).force fun v => ih t I fun vs => k (v :: vs)) (fun p ty => ob (loadA P ty (getF p t) I) fun v => v.force fun v => ih t I fun vs => k (v :: vs)) v) l
theorem resK_some {nt : Nat} {gs : List Tmp} {tm : List AV} {t : FT} (hre : RelF nt gs tm t) {I : St} : ∀ {l : List ResultVar} {rs : List RV} {k : List AV → R} {r : Rt × St}, cRes gs l = some rs → resK P rs t I k = some r → ∃ vs, resL P tm I l = some vs ∧ k vs = some r
  | [], rs, k, r, h, hr => by cases h; exact ⟨[], rfl, hr⟩
  | .tmp i :: l, rs, k, r, h, hr => by
    simp only [cRes, Option.bind_eq_some_iff, Option.map_eq_some_iff] at h
    obtain ⟨j, h1, rs1, h3, rfl⟩ := h
    have hr : (getF (pathOf j) t).force (fun v => resK P rs1 t I fun vs => k (v :: vs)) = some r := hr
    rw [force_eq, getF_eq] at hr
    obtain ⟨vs, h4, h5⟩ := resK_some hre h3 hr
    exact ⟨_, by simp only [resL, h4, Option.map_some, getR_eq, List.getD_eq_getElem?_getD, hre.gl i j h1, Option.getD_some], h5⟩
  | .cell a ty :: l, rs, k, r, h, hr => by
    simp only [cRes, Option.bind_eq_some_iff, Option.map_eq_some_iff] at h
    obtain ⟨j, h1, rs1, h3, rfl⟩ := h
    obtain ⟨v, h6, hr⟩ := ob_some (show ob (loadA P ty (T4.get (.tup []) (pathOf j) t) I) (fun v => v.force fun v => resK P rs1 t I fun vs => k (v :: vs)) = some r by rw [← getF_eq]; exact hr)
    rw [force_eq] at hr
    obtain ⟨vs, h4, h5⟩ := resK_some hre h3 hr
    exact ⟨_, by simp only [resL, getR_eq, List.getD_eq_getElem?_getD, hre.gl a j h1, Option.getD_some, h6, Option.bind_some, h4, Option.map_some], h5⟩
/-! which slots lie in the tree -/
def tmpO : Operand → List Tmp
  | .tmp t => [t]
  | _ => []
def addT (l : List Tmp) (acc : List Tmp) : List Tmp := l.foldl (fun acc t => if acc.contains t then acc else t :: acc) acc
def exOps : List Oper → List Tmp → List Tmp → List Tmp
  | [], _, acc => acc
  | o :: l, defd, acc => exOps l (match o.dst with | some d => d :: defd | none => defd) (addT ((o.op.operands.toList.flatMap tmpO).filter fun t => !defd.contains t) acc)
def exCode : Code → List Tmp → List Tmp
  | .region _ ops _, acc => exOps ops.toList [] acc
  | .seq a b, acc => exCode b (exCode a acc)
  | .cond c a b, acc => exCode b (exCode a (addT (tmpO c) acc))
  | .block _ a, acc | .scope a, acc | .loop a, acc => exCode a acc
  | _, acc => acc
def isDefer : Op → Bool
  | .defer _ => true
  | _ => false
def whole : Code → Bool
  | .region _ ops _ => ops.toList.any fun o => isDefer o.op
  | .seq a b | .cond _ a b => whole a || whole b
  | .block _ a | .scope a | .loop a => whole a
  | .rangeFunc .. => true
  | _ => false
def resT : ResultVar → Tmp
  | .tmp t => t
  | .cell a _ => a
def gsOf (fn : Func) (np : Nat) (body : Code) : List Tmp :=
  if whole body then List.range fn.ntmps else List.range np ++ (exCode body (addT (fn.results.toList.map resT) [])).filter fun t => Nat.ble np t
def initOk (np nt : Nat) (gs : List Tmp) : Bool := decide (gs.take np = List.range np) && (gs.drop np).all (fun t => decide (np ≤ t) && decide (t < nt)) && decide (np ≤ nt)
theorem idxT_get : ∀ {l : List Tmp} {i j : Nat}, idxT l i = some j → l[j]? = some i
  | [], _, _, h => by cases h
  | k :: r, i, j, h => by
    simp only [idxT] at h
    split at h
    · rename_i e; cases h; simp [Nat.eq_of_beq_eq_true e]
    · simp only [Option.map_eq_some_iff] at h
      obtain ⟨a, h1, rfl⟩ := h
      simpa using idxT_get h1
theorem ofL_get (l : List AV) (j : Nat) : T4.get (.tup []) (pathOf j) (ofL l) = l.getD j (.tup []) := by
  rw [ofL, ofGo_get]
  by_cases h : j < l.length
  · rw [if_pos (by omega)]; simp
  · rw [if_neg (by omega), T4.get_leaf]; simp [h]
theorem init_rel {np nt : Nat} {gs : List Tmp} (h : initOk np nt gs = true) {args : List AV} (ha : args.length = np) : RelF nt gs (args ++ List.replicate (nt - args.length) (.tup [])) (ofL args) := by
  simp only [initOk, Bool.and_eq_true, decide_eq_true_eq, List.all_eq_true] at h
  obtain ⟨⟨h1, h2⟩, h3⟩ := h
  refine ⟨by simp; omega, fun i j hj => ?_, fun _ _ h => by cases h⟩
  have hg := idxT_get hj
  rw [ofL_get]
  by_cases hlt : j < np
  · have : (gs.take np)[j]? = some i := by rw [List.getElem?_take, if_pos hlt]; exact hg
    rw [h1] at this
    have hij : i = j := by
      rw [List.getElem?_range hlt] at this; exact (Option.some.inj this).symm
    subst hij
    rw [List.getElem?_append_left (by omega)]
    simp [ha, hlt]
  · have hmem : i ∈ gs.drop np := by
      refine List.mem_of_getElem? (i := j - np) ?_
      rw [List.getElem?_drop, show np + (j - np) = j by omega]; exact hg
    have t1 : np ≤ i := (h2 i hmem).1
    have t2 : i < nt := (h2 i hmem).2
    have q1 : args.length ≤ i := by omega
    have q2 : i - args.length < nt - args.length := Nat.sub_lt_sub_right q1 t2
    rw [List.getElem?_append_right q1, List.getElem?_replicate, if_pos q2]
    rw [List.getD_eq_getElem?_getD, List.getElem?_eq_none (by omega)]; rfl
theorem range_rel (tm : List AV) : RelF tm.length (List.range tm.length) tm (ofL tm) := by
  refine ⟨rfl, fun i j hj => ?_, fun _ _ h => by cases h⟩
  have hg := idxT_get hj
  have hlt : j < tm.length := by
    have := (List.getElem?_eq_some_iff.1 hg).1
    simpa using this
  rw [List.getElem?_range hlt] at hg
  cases hg
  rw [ofL_get]
  simp [hlt]
structure FnC where
  fn : Func
  np : Nat
  nt : Nat
  gs : List Tmp
  kc : KC
  res : List RV
noncomputable def getFn (P : Program) (f : FuncId) : Option FnC :=
  (P.funcs[f]?).bind fun fn => fn.body.bind fun body => lit fn.ntmps fun nt => lit (Nat.add fn.params.size fn.nfree) fun np =>
    if initOk np nt (gsOf fn np body) then (cRes (gsOf fn np body) fn.results.toList).map fun rs => ⟨fn, np, nt, gsOf fn np body, comp P nt (gsOf fn np body) body, rs⟩ else none
theorem getFn_some {f : FuncId} {c : FnC} (h : getFn P f = some c) : P.funcs[f]? = some c.fn ∧ ∃ body, c.fn.body = some body ∧ c.nt = c.fn.ntmps ∧ c.kc = comp P c.nt c.gs body ∧ cRes c.gs c.fn.results.toList = some c.res ∧ initOk c.np c.nt c.gs = true := by
  simp only [getFn, Option.bind_eq_some_iff, lit_eq] at h
  obtain ⟨fn, h1, body, h2, h⟩ := h
  split at h
  · rename_i hi
    simp only [Option.map_eq_some_iff] at h
    obtain ⟨rs, h3, rfl⟩ := h
    exact ⟨h1, body, h2, rfl, rfl, h3, hi⟩
  · cases h
noncomputable def lvK (P : Program) (call : CallF) (K : Nat) (c : FnC) (s : St) (p : Option AV) (t : FT) (σ : Sg) : R :=
  match σ.g.df, p with
  | [], none => resK P c.res t σ.s fun vs => (oneOr vs).force fun v => some (.ret v, collect s σ.s (.ret v))
  | [], some v => some (.pan v, collect s σ.s (.pan v))
  | df, p => bo (fullG c.nt c.gs) (ob (leaveA P call K c.fn (toLG c.nt c.gs t) df p σ.s) fun y => bo (Nat.ble σ.s.next y.2.next) (some (y.1, collect s y.2 y.1)) none) none
noncomputable def fnK (P : Program) (hk : Hook) (call : CallF) (K : Nat) (f : FuncId) (args : List AV) (s : St) : R :=
  match hk f with
  | some g => g args s
  | none => ob (getFn P f) fun c => bo (Nat.beq (lenF args) c.np) (ofK args 0 .leaf fun t => runKX K c.kc ⟨P, call, fun x t σ => match x with | .norm | .ret => lvK P call K c s none t σ | .pan v => lvK P call K c s (some v) t σ | .exit _ => none⟩ t ⟨⟨[], .no, none⟩, ⟨s.heap, s.next, []⟩⟩ (fun t σ => lvK P call K c s none t σ)) none
noncomputable def rdK (P : Program) (call : CallF) (K : Nat) (l : Nat) (args : List AV) (s : St) : R :=
  ob (loopA ⟨s.heap, s.next, []⟩ l) fun L => bo (Nat.beq args.length L.2.2.2.1.size) (lit (foldA (L.2.2.2.1.toList.zip args) L.2.2.1).length fun nt =>
    runKX K (comp P nt (List.range nt) L.2.2.2.2.1) ⟨P, call, fun _ _ _ => none⟩ (ofL (foldA (L.2.2.2.1.toList.zip args) L.2.2.1)) ⟨⟨[], .no, some l⟩, ⟨s.heap, s.next, []⟩⟩
      (fun t σ => ob (loopA σ.s l) fun L1 => if L1.1 = .ready then
        runKX K (comp P nt (List.range nt) L.2.2.2.2.2.1) ⟨P, call, fun x _ σ => ob (jumpOf x) fun jump => ob (loopA σ.s l) fun L3 => some (.ret (.bool jump.isNone), collect s (endRd σ.s l jump L3) (.ret (.bool jump.isNone)))⟩ t ⟨σ.g, begRd σ.s l L1⟩
          (fun _ σ => ob (loopA σ.s l) fun L3 => some (.ret (.bool true), collect s (endRd σ.s l none L3) (.ret (.bool true)))) else none)) none
noncomputable def fCall (P : Program) (hk : Hook) (K : Nat) (n : Nat) : CallF :=
  Nat.rec (motive := fun _ => CallF) (fun _ _ _ => none) (fun _ ih tg => Tg.rec (motive := fun _ => List AV → St → Option (Rt × St)) (fun f args s => fnK P hk ih K f args s) (fun l args s => rdK P ih K l args s) tg) n
theorem lvK_some {callF call : CallF} (hc : CLe callF call) {K : Nat} {f : FuncId} {c : FnC} (hf : getFn P f = some c) {s : St} {p : Option AV} {t : FT} {tm : List AV} (hre : RelF c.nt c.gs tm t) {g : Aux} {I : St} {r : Rt × St} (h : lvK P callF K c s p t ⟨g, I⟩ = some r) :
    ∃ y, leaveA P call K c.fn tm g.df p I = some y ∧ I.next ≤ y.2.next ∧ r = (y.1, collect s y.2 y.1) := by
  obtain ⟨_, body, _, _, _, hres, _⟩ := getFn_some hf
  unfold lvK at h
  split at h
  · rename_i hdf
    obtain ⟨vs, h1, h2⟩ := resK_some hre hres h
    rw [force_eq] at h2
    cases h2
    refine ⟨(_, I), ?_, Nat.le_refl _, rfl⟩
    rw [hdf]
    simp only [leaveA, resultsA_eq, h1, Option.map_some]
  · rename_i v hdf
    cases h
    exact ⟨(.pan v, I), by rw [hdf]; rfl, Nat.le_refl _, rfl⟩
  · obtain ⟨h0, h⟩ := bo_some h
    obtain ⟨y, h1, h2⟩ := ob_some h
    obtain ⟨h3, h4⟩ := bo_some h2
    cases h4
    rw [← toLG_eq hre h0] at h1
    exact ⟨y, leaveA_mono hc h1, Nat.le_of_ble_eq_true h3, rfl⟩
theorem fCall_ok {hk : Hook} {K : Nat} : ∀ n, CLe (fCall P hk K n) (evCall P hk K n)
  | 0 => fun _ _ _ _ h => by cases h
  | n + 1 => by
    have ih := @fCall_ok hk K n
    intro tg args s r h
    cases tg with
    | fn f =>
      have h : fnK P hk (fCall P hk K n) K f args s = some r := h
      unfold fnK at h
      simp only [evCall]
      split at h
      · rename_i hg; rw [hg]; exact h
      · rename_i hg
        rw [hg]
        obtain ⟨c, hc, h⟩ := ob_some h
        obtain ⟨h1, body, h2, h3, h4, h5, hi⟩ := getFn_some hc
        obtain ⟨h6, h⟩ := bo_some h
        rw [lenF_eq] at h6
        have h6 : args.length = c.np := Nat.eq_of_beq_eq_true h6
        rw [ofK_eq, h4] at h
        obtain ⟨x, tm1, t1, g1, I, h7, hre, h8, h9⟩ := runK_ok ih K body (init_rel hi h6) h
        have hfr : frameA args c.fn.ntmps .no = frOf (args ++ List.replicate (c.nt - args.length) (.tup [])) ⟨[], .no, none⟩ := by rw [← h3]; rfl
        simp only [h1, h2, Option.bind_some, hfr, h7]
        have fin : ∀ {p : Option AV}, lvK P (fCall P hk K n) K c s p t1 ⟨g1, I⟩ = some r → ((leaveA P (evCall P hk K n) K c.fn (frOf tm1 g1).tm (frOf tm1 g1).df p I).bind fun y => if I.next ≤ y.2.next then some (y.1, collect s y.2 y.1) else none) = some r := by
          intro p hp
          obtain ⟨y, q1, q2, rfl⟩ := lvK_some ih hc hre hp
          simp only [frOf, q1, Option.bind_some, if_pos q2]
        cases x with
        | norm => exact fin h9
        | ret => exact fin h9
        | pan v => exact fin h9
        | exit id => cases h9
    | yld l =>
      have h : rdK P (fCall P hk K n) K l args s = some r := h
      simp only [evCall]
      obtain ⟨L, h1, h⟩ := ob_some (show ob _ _ = _ from h)
      obtain ⟨h2, h⟩ := bo_some h
      have h2 : args.length = L.2.2.2.1.size := Nat.eq_of_beq_eq_true h2
      rw [lit_eq] at h
      obtain ⟨x, tm1, t1, g1, I1, h3, hre, h4, h5⟩ := runK_ok ih K _ (range_rel _) h
      cases x with
      | norm =>
        obtain ⟨L1, h6, h7⟩ := ob_some (show ob (loopA I1 l) _ = some r from h5)
        split at h7
        case isFalse => cases h7
        rename_i hr
        obtain ⟨x, tm2, t2, g2, I3, h8, hre2, h9, h10⟩ := runK_ok ih K _ hre h7
        have hfr : (⟨foldA (L.2.2.2.1.toList.zip args) L.2.2.1, [], .no, some l⟩ : Fr) = frOf (foldA (L.2.2.2.1.toList.zip args) L.2.2.1) ⟨[], .no, some l⟩ := rfl
        have hle : I1.next ≤ I3.next := h9
        unfold roundA
        simp only [h1, Option.bind_some, h2, if_true, hfr, h3, h6, hr, h8, if_pos hle]
        have fin : ∀ {jump : Option Code}, jumpOf x = some jump → (ob (loopA I3 l) fun L3 => some (Rt.ret (.bool jump.isNone), collect s (endRd I3 l jump L3) (.ret (.bool jump.isNone)))) = some r →
            (((jumpOf x).bind fun jump => (loopA I3 l).map fun L3 => (Rt.ret (.bool jump.isNone), endRd I3 l jump L3)).map fun q => (q.1, collect s q.2 q.1)) = some r := by
          intro jump hj hx
          obtain ⟨L3, q1, q2⟩ := ob_some hx
          cases q2
          simp only [hj, Option.bind_some, q1, Option.map_some]
        cases x with
        | norm => exact fin (jump := none) rfl h10
        | ret => exact fin (jump := some .ret) rfl h10
        | exit id => exact fin (jump := some (.exit id)) rfl h10
        | pan v => cases h10
      | exit id => cases h5
      | ret => cases h5
      | pan v => cases h5
noncomputable def runF (P : Program) (hk : Hook) (K n : Nat) (f : FuncId) (args : List AV) : R :=
  ob (getFn P f) fun c => bo (Nat.beq (lenF args) c.np) (runKX K c.kc ⟨P, fCall P hk K n, fun x t σ => match x, σ.g.df with | .ret, [] => resK P c.res t σ.s fun vs => some (.ret (oneOr vs), σ.s) | _, _ => none⟩ (ofL args) ⟨⟨[], .no, none⟩, ⟨.leaf, 0, []⟩⟩
    (fun t σ => match σ.g.df with | [] => resK P c.res t σ.s fun vs => some (.ret (oneOr vs), σ.s) | _ => none)) none
theorem runF_ok {hk : Hook} {K n : Nat} {f : FuncId} {args : List AV} {v : AV} {I0 : St} (h : runF P hk K n f args = some (.ret v, I0)) : runFn P hk K n f args = some v := by
  obtain ⟨c, hc, h⟩ := ob_some (show ob _ _ = _ from h)
  obtain ⟨h1, body, h2, h3, h4, h5, hi⟩ := getFn_some hc
  obtain ⟨h6, h⟩ := bo_some h
  rw [lenF_eq] at h6
  have h6 : args.length = c.np := Nat.eq_of_beq_eq_true h6
  rw [h4] at h
  obtain ⟨x, tm1, t1, g1, I, h7, hre, h8, h9⟩ := runK_ok (fCall_ok n) K body (init_rel hi h6) h
  have hfr : frameA args c.fn.ntmps .no = frOf (args ++ List.replicate (c.nt - args.length) (.tup [])) ⟨[], .no, none⟩ := by rw [← h3]; rfl
  unfold runFn
  simp only [h1, h2, Option.bind_some, hfr, h7]
  have fin : ∀ {vv : AV} {I0 : St}, (resK P c.res t1 I fun vs => some (.ret (oneOr vs), I)) = some (.ret vv, I0) → resultsA P c.fn (frOf tm1 g1).tm I = some vv := by
    intro vv I0 hx
    obtain ⟨vs, q1, q2⟩ := resK_some hre h5 hx
    cases q2
    simp only [resultsA_eq, frOf, q1, Option.map_some]
  cases x with
  | norm =>
    have h9 : (match g1.df with | [] => resK P c.res t1 I fun vs => some (.ret (oneOr vs), I) | _ => none) = some (Rt.ret v, I0) := h9
    split at h9
    · rename_i hd; simp only [frOf, hd]; exact fin h9
    · cases h9
  | ret =>
    have h9 : (match Ex.ret, g1.df with | .ret, [] => resK P c.res t1 I fun vs => some (.ret (oneOr vs), I) | _, _ => none) = some (Rt.ret v, I0) := h9
    split at h9
    · rename_i hd; simp only [frOf, hd]; exact fin h9
    · cases h9
  | exit id => cases h9
  | pan v => cases h9
end Go.Abs
/- A long run in stretches. -/
namespace Go.Abs
noncomputable def KC.hd (c : KC) : KC := KC.rec (motive := fun _ => KC) .bad (fun _ => .bad) .bad (fun _ => .bad) (fun _ => .bad) (fun a _ _ _ => a) (fun _ _ _ _ _ => .bad) (fun _ _ _ => .bad) (fun _ _ => .bad) (fun _ _ => .bad) (fun _ _ _ _ _ _ => .bad) .bad c
noncomputable def KC.tl (c : KC) : KC := KC.rec (motive := fun _ => KC) .bad (fun _ => .bad) .bad (fun _ => .bad) (fun _ => .bad) (fun _ b _ _ => b) (fun _ _ _ _ _ => .bad) (fun _ _ _ => .bad) (fun _ _ => .bad) (fun _ _ => .bad) (fun _ _ _ _ _ _ => .bad) .bad c
noncomputable def KC.isSeq (c : KC) : Bool := KC.rec (motive := fun _ => Bool) false (fun _ => false) false (fun _ => false) (fun _ => false) (fun _ _ _ _ => true) (fun _ _ _ _ _ => false) (fun _ _ _ => false) (fun _ _ => false) (fun _ _ => false) (fun _ _ _ _ _ _ => false) false c
theorem KC.seq_of {c : KC} (h : c.isSeq = true) : c = .seq c.hd c.tl := by
  cases c <;> first | rfl | cases h
noncomputable def kcOf (P : Program) (f : FuncId) : KC := match getFn P f with | some c => c.kc | none => .bad
noncomputable def KC.take (m : Nat) : KC → KC := Nat.rec (motive := fun _ => KC → KC) (fun _ => .skip) (fun _ ih c => .seq c.hd (ih c.tl)) m
noncomputable def KC.drop (m : Nat) : KC → KC := Nat.rec (motive := fun _ => KC → KC) (fun c => c) (fun _ ih c => ih c.tl) m
noncomputable def KC.seqs (m : Nat) : KC → Bool := Nat.rec (motive := fun _ => KC → Bool) (fun _ => true) (fun _ ih c => c.isSeq && ih c.tl) m
theorem take_run {K : Nat} {X : Cx} : ∀ (m : Nat) {c : KC}, c.seqs m = true → ∀ (t : FT) (σ : Sg) (k : KT), runKX (K + 1 + m) c X t σ k = runKX (K + 1 + m) (c.take m) X t σ fun t σ => runKX (K + 1) (c.drop m) X t σ k
  | 0, c, _, t, σ, k => rfl
  | m + 1, c, h, t, σ, k => by
    have h : (c.isSeq && c.tl.seqs m) = true := h
    rw [Bool.and_eq_true] at h
    have ih := @take_run K X m c.tl h.2
    have e1 : runKX (K + 1 + (m + 1)) c X t σ k = runKX (K + 1 + m) c.hd X t σ fun t σ => runKX (K + 1 + m) c.tl X t σ k := by
      conv => lhs; rw [KC.seq_of h.1]
      rfl
    rw [e1]
    simp only [ih]
    rfl
theorem stretch {K m : Nat} {c : KC} {X : Cx} {t t' : FT} {σ σ' : Sg} (hs : c.seqs m = true) (h : ∀ k, runKX (K + 1 + m) (c.take m) X t σ k = k t' σ') (k : KT) : runKX (K + 1 + m) c X t σ k = runKX (K + 1) (c.drop m) X t' σ' k := by
  rw [take_run m hs]; exact h _
noncomputable def kxOf (P : Program) (c : FnC) : KX := fun x t σ => match x, σ.g.df with | .ret, [] => resK P c.res t σ.s fun vs => some (.ret (oneOr vs), σ.s) | _, _ => none
noncomputable def knOf (P : Program) (c : FnC) : KT := fun t σ => match σ.g.df with | [] => resK P c.res t σ.s fun vs => some (.ret (oneOr vs), σ.s) | _ => none
noncomputable def sgOf (s : St) : Sg := ⟨⟨[], .no, none⟩, s⟩
theorem KC.drop_add (o m : Nat) : ∀ c : KC, c.drop (o + m) = (c.drop o).drop m := by
  induction o with
  | zero => intro c; rw [Nat.zero_add]; rfl
  | succ o ih =>
    intro c
    rw [show o + 1 + m = (o + m) + 1 by omega]
    exact ih c.tl
/-- The run of a function without arguments from its o-th piece on. -/
noncomputable def from_ (P : Program) (call : CallF) (f : FuncId) (o K : Nat) (t : FT) (σ : Sg) : R :=
  ob (getFn P f) fun c => bo (Nat.beq 0 c.np) (runKX K (c.kc.drop o) ⟨P, call, kxOf P c⟩ t σ (knOf P c)) none
theorem runF_from (P : Program) (hk : Hook) (K n : Nat) (f : FuncId) : runF P hk K n f [] = from_ P (fCall P hk K n) f 0 K (ofL []) (sgOf ⟨.leaf, 0, []⟩) := rfl
theorem from_step {P : Program} {call : CallF} {f : FuncId} {o K m : Nat} {t t' : FT} {σ σ' : Sg} (hs : ((kcOf P f).drop o).seqs m = true)
    (h : ∀ kx k, runKX (K + 1 + m) (((kcOf P f).drop o).take m) ⟨P, call, kx⟩ t σ k = k t' σ') : from_ P call f o (K + 1 + m) t σ = from_ P call f (o + m) (K + 1) t' σ' := by
  unfold from_
  cases hc : getFn P f with
  | none => rfl
  | some c =>
    have hk : kcOf P f = c.kc := by unfold kcOf; rw [hc]
    rw [hk] at hs h
    show bo _ (runKX (K + 1 + m) (c.kc.drop o) _ _ _ _) none = bo _ (runKX (K + 1) (c.kc.drop (o + m)) _ _ _ _) none
    rw [stretch hs (h _), KC.drop_add]
/-- The paths of the names below are met first, a few at a time: the kernel keeps them. -/
noncomputable def warm (m : Nat) (x : R) : R :=
  Nat.rec (motive := fun _ => Nat → R → R) (fun _ x => x) (fun _ ih c x =>
    Pt.rec (motive := fun _ => R → R) (fun x => lit (Nat.add c 64) fun c => ih c x) (fun _ _ x => lit (Nat.add c 64) fun c => ih c x) (fun _ _ x => lit (Nat.add c 64) fun c => ih c x) (fun _ _ x => lit (Nat.add c 64) fun c => ih c x) (fun _ _ x => lit (Nat.add c 64) fun c => ih c x) (pathOf c) x) m 0 x
theorem warm_eq (m : Nat) (x : R) : warm m x = x := by
  suffices h : ∀ (m c : Nat), Nat.rec (motive := fun _ => Nat → R → R) (fun _ x => x) (fun _ ih c x =>
    Pt.rec (motive := fun _ => R → R) (fun x => lit (Nat.add c 64) fun c => ih c x) (fun _ _ x => lit (Nat.add c 64) fun c => ih c x) (fun _ _ x => lit (Nat.add c 64) fun c => ih c x) (fun _ _ x => lit (Nat.add c 64) fun c => ih c x) (fun _ _ x => lit (Nat.add c 64) fun c => ih c x) (pathOf c) x) m c x = x from h m 0
  intro m
  induction m with
  | zero => intro c; rfl
  | succ m ih =>
    intro c
    cases hp : pathOf c <;> simp only [hp, lit_eq] <;> exact ih _
noncomputable def okTrue (r : R) : Bool := match r with | some (.ret (.bool true), _) => true | _ => false
theorem okTrue_some {r : R} (h : okTrue r = true) : ∃ I, r = some (.ret (.bool true), I) := by
  unfold okTrue at h
  split at h
  · exact ⟨_, rfl⟩
  · cases h
theorem calls_true {P : Program} {hk : Hook} (hhk : HookOk P hk) {K n : Nat} {f : FuncId} (h : okTrue (runF P hk K n f []) = true) (w : World) :
    Go.Calls P f #[] w fun e w' => e = .returned (.bool true) ∧ RowKit.Below w.heap.size w w' := by
  obtain ⟨I, hr⟩ := okTrue_some h
  have := calls_of_run hhk (runF_ok hr) (xs := []) rfl w
  refine this.mono ?_
  rintro e w' ⟨⟨E, x, hx, rfl⟩, hb⟩
  cases hx
  exact ⟨rfl, hb⟩
end Go.Abs

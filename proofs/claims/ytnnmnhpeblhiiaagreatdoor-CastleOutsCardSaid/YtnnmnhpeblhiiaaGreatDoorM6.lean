/- A part of the proof: a run of the program on abstract values, shown to be a run of the machine. -/
import Derived.Test.YtnnmnhpeblhiiaaGreatDoorM5
import Derived.Orders
import Derived.RangeFuncIn
set_option linter.unusedVariables false
set_option linter.unusedSimpArgs false
/- A region that draws its order: one run stands for all. -/
namespace Go.Abs
structure DE where
  o : Oper
  m : Nat
  v : AV
  hp : Tr Blk
  lg : List Nat
  c : Nat
  c' : Nat
  ih : Tr Blk
noncomputable def foldH (S : Nat → Bool) (h : Tr Blk) : List DE → Tr Blk
  | [] => h
  | x :: r => if S r.length then setAll (foldH S h r) x.hp x.lg else foldH S h r
noncomputable def foldT (S : Nat → Bool) (tm : List AV) : List DE → List AV
  | [] => tm
  | x :: r => if S r.length then putA x.o.dst x.v (foldT S tm r) else foldT S tm r
def atE : List DE → Nat → Option DE
  | [], _ => none
  | x :: r, i => if i = r.length then some x else atE r i
def ancOf (E : List DE) : List Edge → Option Nat
  | [] => some 0
  | e :: es => (ancOf E es).bind fun m => if Region.binds .any e then (atE E e.on).map fun y => (m ||| 2 ^ e.on) ||| y.m else some m
noncomputable def argM (L : List Tmp) (tm : List AV) : Operand → Option AV
  | .tmp t => if L.contains t then some (getR (.tup []) tm t) else none
  | x => arg tm x
/-! what can be said of a region once for all -/
def atR : List (Oper × Nat) → Nat → Option (Oper × Nat)
  | [], _ => none
  | x :: r, i => if i = r.length then some x else atR r i
def ancR (R : List (Oper × Nat)) : List Edge → Option Nat
  | [] => some 0
  | e :: es => (ancR R es).bind fun m => if Region.binds .any e then (atR R e.on).map fun y => (m ||| 2 ^ e.on) ||| y.2 else some m
def apartR (ops : Array Oper) (o : Oper) (m : Nat) : List (Oper × Nat) → Bool
  | [] => true
  | y :: r => (m.testBit r.length || Oper.apart ops o y.1) && apartR ops o m r
def infoGo (ops : Array Oper) : List Oper → List (Oper × Nat) → Option (List (Oper × Nat × List Tmp))
  | [], _ => some []
  | o :: l, R => (ancR R o.after.toList).bind fun m => if apartR ops o m R then (infoGo ops l ((o, m) :: R)).map ((o, m, o.looksAt ops) :: ·) else none
noncomputable def dynB (x y : DE) : Bool :=
  match x.lg, y.lg with
  | [], [] => true
  | _, _ => x.lg.all (fun n => (y.ih.get n).isNone) && y.lg.all (fun n => (x.ih.get n).isNone) && y.lg.all (fun n => !x.lg.contains n)
noncomputable def dynsB (x : DE) : List DE → Bool
  | [] => true
  | y :: r => (x.m.testBit r.length || dynB x y) && dynsB x r
noncomputable def pairB (ops : Array Oper) (x y : DE) : Bool :=
  x.lg.all (fun n => (y.ih.get n).isNone) && y.lg.all (fun n => (x.ih.get n).isNone) && y.lg.all (fun n => !x.lg.contains n) && Oper.apart ops x.o y.o
noncomputable def stepDE (P : Program) (call : CallF) (ops : Array Oper) (h : Tr Blk) (o : Oper) (m : Nat) (L : List Tmp) (t : List AV) (E : List DE) (c : Nat) : Option DE :=
  (if wantedA ops o t then
    match opX P call o (argM L t) (some 0) .no ⟨foldH m.testBit h E, c, []⟩ with
    | some (.put v, I) => if c ≤ I.next then some ⟨o, m, v, I.heap, I.log, c, I.next, foldH m.testBit h E⟩ else none
    | _ => none
  else some ⟨o, m, .tup [], foldH m.testBit h E, [], c, c, foldH m.testBit h E⟩).bind fun x => if dynsB x E then some x else none
noncomputable def evDrawL (P : Program) (call : CallF) (ops : Array Oper) (h : Tr Blk) : List (Oper × Nat × List Tmp) → List AV → List DE → Nat → Option (List DE × List AV × Nat)
  | [], t, E, c => some (E, t, c)
  | (o, m, L) :: l, t, E, c => (stepDE P call ops h o m L t E c).bind fun x => evDrawL P call ops h l (putA x.o.dst x.v t) (x :: E) x.c'
def logsOf : List DE → List Nat → List Nat
  | [], l => l
  | x :: r, l => x.lg ++ logsOf r l
noncomputable def evDraw (P : Program) (call : CallF) (ops : Array Oper) (fr : Fr) (s : St) : Option (Fr × St) :=
  (infoGo ops ops.toList []).bind fun inf => (evDrawL P call ops s.heap inf fr.tm [] s.next).map fun (E, t, c) =>
    ({ fr with tm := t }, { heap := foldH (fun _ => true) s.heap E, next := c, log := logsOf E s.log })
/-! what is known of such a list -/
structure Runs (P : Program) (call : CallF) (ops : Array Oper) (h : Tr Blk) (tm : List AV) (x : DE) (r : List DE) : Prop where
  anc : ancOf r x.o.after.toList = some x.m
  ih : x.ih = foldH x.m.testBit h r
  run : (wantedA ops x.o (foldT x.m.testBit tm r) = true ∧ opX P call x.o (argM (x.o.looksAt ops) (foldT x.m.testBit tm r)) (some 0) .no ⟨x.ih, x.c, []⟩ = some (.put x.v, ⟨x.hp, x.c', x.lg⟩) ∧ x.c ≤ x.c') ∨
    (wantedA ops x.o (foldT x.m.testBit tm r) = false ∧ x.v = .tup [] ∧ x.lg = [] ∧ x.c' = x.c)
  pairs : ∀ i y, atE r i = some y → x.m.testBit i = false → pairB ops x y = true
def Good (P : Program) (call : CallF) (ops : Array Oper) (h : Tr Blk) (tm : List AV) (c0 : Nat) : List DE → Nat → Prop
  | [], c => c = c0
  | x :: r, c => Good P call ops h tm c0 r x.c ∧ c = x.c' ∧ ops[r.length]? = some x.o ∧ Runs P call ops h tm x r
theorem atE_lt : ∀ {E : List DE} {i : Nat} {x : DE}, atE E i = some x → i < E.length
  | [], _, _, h => by simp [atE] at h
  | x :: r, i, y, h => by
    simp only [atE] at h
    split at h
    · subst i; simp
    · have := atE_lt h; simp; omega
theorem dynB_eq {x y : DE} (h : dynB x y = true) : (x.lg.all (fun n => (y.ih.get n).isNone) && y.lg.all (fun n => (x.ih.get n).isNone) && y.lg.all (fun n => !x.lg.contains n)) = true := by
  unfold dynB at h
  split at h
  · rename_i h1 h2; simp [h1, h2]
  · exact h
def pr (x : DE) : Oper × Nat := (x.o, x.m)
theorem atR_map : ∀ (E : List DE) (i : Nat), atR (E.map pr) i = (atE E i).map pr
  | [], _ => rfl
  | x :: r, i => by
    simp only [List.map_cons, atR, atE, List.length_map]
    split
    · rfl
    · exact atR_map r i
theorem ancR_map (E : List DE) : ∀ es : List Edge, ancR (E.map pr) es = ancOf E es
  | [] => rfl
  | e :: es => by
    simp only [ancR, ancOf, ancR_map E es, atR_map, Option.map_map]
    rfl
theorem pairs_spec {ops : Array Oper} {x : DE} : ∀ {r : List DE}, apartR ops x.o x.m (r.map pr) = true → dynsB x r = true → ∀ i y, atE r i = some y → x.m.testBit i = false → pairB ops x y = true
  | [], _, _, i, y, h, _ => by simp [atE] at h
  | z :: r, hp, hd, i, y, h, hb => by
    simp only [List.map_cons, apartR, List.length_map, Bool.and_eq_true, Bool.or_eq_true] at hp
    simp only [dynsB, Bool.and_eq_true, Bool.or_eq_true] at hd
    simp only [atE] at h
    split at h
    · subst i; simp only [Option.some.injEq] at h; subst h
      rcases hp.1 with h1 | h1
      · rw [hb] at h1; cases h1
      · rcases hd.1 with h2 | h2
        · rw [hb] at h2; cases h2
        · unfold pairB; rw [dynB_eq h2, Bool.true_and]; exact h1
    · exact pairs_spec hp.2 hd.2 i y h hb
theorem putA_len (d : Option Tmp) (v : AV) (tm : List AV) : (putA d v tm).length = tm.length := by cases d <;> simp [putA, setR_eq]
theorem putA_at {d : Option Tmp} {v : AV} {tm tm' : List AV} {t : Nat} (hl : tm.length = tm'.length) (ht : tm[t]? = tm'[t]?) : (putA d v tm)[t]? = (putA d v tm')[t]? := by
  cases d with
  | none => exact ht
  | some d =>
    simp only [putA, setR_eq, List.getElem?_set]
    split
    · rw [hl]
    · exact ht
theorem foldT_len (S : Nat → Bool) (tm : List AV) : ∀ (E : List DE), (foldT S tm E).length = tm.length
  | [] => rfl
  | x :: r => by
    simp only [foldT]
    split
    · rw [putA_len, foldT_len S tm r]
    · exact foldT_len S tm r
/-- What is looked at reads the same, whether all that lies ahead is done or only what must be. -/
theorem foldT_looks {m : Nat} {tm : List AV} {t : Nat} : ∀ {E : List DE}, (∀ i y, atE E i = some y → m.testBit i = false → y.o.dst ≠ some t) → (foldT (fun _ => true) tm E)[t]? = (foldT m.testBit tm E)[t]?
  | [], _ => rfl
  | x :: r, h1 => by
    have ih := foldT_looks (m := m) (tm := tm) (E := r) (fun i y hy => h1 i y (by simp only [atE]; rw [if_neg (by have := atE_lt hy; omega)]; exact hy))
    have hx : atE (x :: r) r.length = some x := by simp [atE]
    simp only [foldT, if_true]
    cases hM : m.testBit r.length
    · simp only [Bool.false_eq_true, if_false]
      have hd := h1 _ _ hx hM
      rw [← ih]
      cases hdst : x.o.dst with
      | none => rfl
      | some d =>
        simp only [putA, setR_eq]
        rw [List.getElem?_set_ne]
        intro e0; exact hd (by rw [hdst, e0])
    · simp only [if_true]; exact putA_at (by rw [foldT_len, foldT_len]) ih
variable {P : Program} {call : CallF} {ops : Array Oper} {h : Tr Blk} {tm : List AV} {c0 : Nat}
theorem stepDE_runs {o : Oper} {m : Nat} {E : List DE} {c : Nat} {x : DE} (hx : stepDE P call ops h o m (o.looksAt ops) (foldT (fun _ => true) tm E) E c = some x) (hanc : ancR (E.map pr) o.after.toList = some m) (hap : apartR ops o m (E.map pr) = true) :
    x.o = o ∧ x.m = m ∧ x.c = c ∧ Runs P call ops h tm x E := by
  have hap' : ∀ i y, atE E i = some y → m.testBit i = false → ∀ d, y.o.dst = some d → d ∉ o.looksAt ops := by
    intro i y hy hb d hd
    have : ∀ {r : List DE}, apartR ops o m (r.map pr) = true → ∀ i y, atE r i = some y → m.testBit i = false → Oper.apart ops o y.o = true := by
      intro r
      induction r with
      | nil => intro _ i y hy; simp [atE] at hy
      | cons z r ih =>
        intro hp i y hy hb
        simp only [List.map_cons, apartR, List.length_map, Bool.and_eq_true, Bool.or_eq_true] at hp
        simp only [atE] at hy
        split at hy
        · subst i; simp only [Option.some.injEq] at hy; subst hy
          rcases hp.1 with h1 | h1
          · rw [hb] at h1; cases h1
          · exact h1
        · exact ih hp.2 i y hy hb
    exact (Oper.apart_spec (this hap i y hy hb)).2.2 d hd
  have hslot : ∀ t, t ∈ o.looksAt ops → (foldT (fun _ => true) tm E)[t]? = (foldT m.testBit tm E)[t]? := fun t ht =>
    foldT_looks fun i y hy hb hd => hap' i y hy hb t hd ht
  have hα : argM (o.looksAt ops) (foldT (fun _ => true) tm E) = argM (o.looksAt ops) (foldT m.testBit tm E) := by
    funext y
    cases y with
    | tmp t =>
      simp only [argM]
      split
      · rename_i ht
        rw [List.contains_eq_mem, decide_eq_true_eq] at ht
        simp only [getR_eq, List.getD_eq_getElem?_getD, hslot t ht]
      · rfl
    | _ => rfl
  have hw : wantedA ops o (foldT (fun _ => true) tm E) = wantedA ops o (foldT m.testBit tm E) := by
    unfold wantedA
    cases hgd : o.guard with
    | none => rfl
    | some gd =>
      obtain ⟨gi, want⟩ := gd
      simp only
      cases hd : (ops[gi]?).bind (·.dst) with
      | none => rfl
      | some d =>
        have hlk : d ∈ o.looksAt ops := by simp [Oper.looksAt, hgd, hd]
        simp only [Option.bind_some, hslot d hlk]
  rw [ancR_map] at hanc
  unfold stepDE at hx
  rw [hα, hw] at hx
  simp only [Option.bind_eq_some_iff] at hx
  obtain ⟨y, hy, hx⟩ := hx
  split at hx <;> simp only [reduceCtorEq, Option.some.injEq] at hx
  rename_i hp
  subst hx
  split at hy
  · rename_i hw
    split at hy
    · rename_i v I hX
      split at hy <;> simp only [reduceCtorEq, Option.some.injEq] at hy
      rename_i hc
      subst hy
      exact ⟨rfl, rfl, rfl, hanc, rfl, .inl ⟨hw, hX, hc⟩, pairs_spec hap hp⟩
    · cases hy
  · rename_i hw
    simp only [Option.some.injEq] at hy
    subst hy
    exact ⟨rfl, rfl, rfl, hanc, rfl, .inr ⟨by simpa using hw, rfl, rfl, rfl⟩, pairs_spec hap hp⟩
theorem evDrawL_good : ∀ {l : List Oper} {inf : List (Oper × Nat × List Tmp)} {E E' : List DE} {t t' : List AV} {c c' : Nat}, infoGo ops l (E.map pr) = some inf → t = foldT (fun _ => true) tm E → evDrawL P call ops h inf t E c = some (E', t', c') → Good P call ops h tm c0 E c → (∀ j, l[j]? = ops[E.length + j]?) →
    Good P call ops h tm c0 E' c' ∧ E'.length = E.length + l.length ∧ t' = foldT (fun _ => true) tm E'
  | [], inf, E, E', t, t', c, c', hi, ht, hev, hg, _ => by
    simp only [infoGo, Option.some.injEq] at hi
    subst hi
    simp only [evDrawL, Option.some.injEq, Prod.mk.injEq] at hev
    obtain ⟨rfl, rfl, rfl⟩ := hev
    exact ⟨hg, by simp, ht⟩
  | o :: l, inf, E, E', t, t', c, c', hi, ht, hev, hg, hl => by
    simp only [infoGo, Option.bind_eq_some_iff] at hi
    obtain ⟨m, hm, hi⟩ := hi
    split at hi
    case isFalse => cases hi
    rename_i hap
    simp only [Option.map_eq_some_iff] at hi
    obtain ⟨inf', hi', rfl⟩ := hi
    simp only [evDrawL, Option.bind_eq_some_iff] at hev
    obtain ⟨x, hx, hev⟩ := hev
    subst ht
    obtain ⟨h1, h1', h2, h3⟩ := stepDE_runs hx hm hap
    have := evDrawL_good (E := x :: E) (by simp only [List.map_cons, pr, h1, h1']; exact hi') (by simp [foldT]) hev ⟨h2 ▸ hg, rfl, by rw [h1]; simpa using (hl 0).symm, h3⟩ (fun j => by have := hl (j + 1); simpa [Nat.add_assoc, Nat.add_comm 1 j] using this)
    exact ⟨this.1, by rw [this.2.1]; simp; omega, this.2.2⟩
/-- Where an element stands. -/
theorem atE_split : ∀ {E : List DE} {j : Nat} {x : DE}, atE E j = some x → ∃ A r, E = A ++ x :: r ∧ r.length = j
  | [], _, _, hx => by simp [atE] at hx
  | y :: r, j, x, hx => by
    simp only [atE] at hx
    split at hx
    · simp only [Option.some.injEq] at hx; subst hx; exact ⟨[], r, rfl, by omega⟩
    · obtain ⟨A, r', rfl, hl⟩ := atE_split hx; exact ⟨y :: A, r', rfl, hl⟩
theorem atE_some : ∀ {E : List DE} {j : Nat}, j < E.length → ∃ x, atE E j = some x
  | [], _, hj => by simp at hj
  | y :: r, j, hj => by
    simp only [atE]
    split
    · exact ⟨y, rfl⟩
    · exact atE_some (by simp at hj; omega)
theorem good_suffix : ∀ {A : List DE} {r : List DE} {c : Nat}, Good P call ops h tm c0 (A ++ r) c → ∃ c1, Good P call ops h tm c0 r c1
  | [], r, c, hg => ⟨c, hg⟩
  | y :: A, r, c, hg => good_suffix hg.1
theorem good_at {E : List DE} {c : Nat} {j : Nat} {x : DE} (hg : Good P call ops h tm c0 E c) (hx : atE E j = some x) : ∃ A r, E = A ++ x :: r ∧ r.length = j ∧ ops[j]? = some x.o ∧ Runs P call ops h tm x r := by
  obtain ⟨A, r, rfl, hl⟩ := atE_split hx
  obtain ⟨c1, hg1⟩ := good_suffix (A := A) hg
  exact ⟨A, r, rfl, hl, hl ▸ hg1.2.2.1, hg1.2.2.2⟩
theorem atE_append {A r : List DE} {i : Nat} (hi : i < r.length) : atE (A ++ r) i = atE r i := by
  induction A with
  | nil => rfl
  | cons y A ih => simp only [List.cons_append, atE]; rw [if_neg (by simp; omega)]; exact ih
theorem anc_bits {E : List DE} : ∀ {es : List Edge} {m : Nat}, ancOf E es = some m → ∀ b, m.testBit b = true → ∃ e ∈ es, Region.binds .any e = true ∧ ∃ y, atE E e.on = some y ∧ (b = e.on ∨ y.m.testBit b = true)
  | [], m, hm, b, hb => by simp [ancOf] at hm; subst hm; simp at hb
  | e :: es, m, hm, b, hb => by
    simp only [ancOf, Option.bind_eq_some_iff] at hm
    obtain ⟨m1, hm1, hm⟩ := hm
    split at hm
    · rename_i hbind
      simp only [Option.map_eq_some_iff] at hm
      obtain ⟨y, hy, rfl⟩ := hm
      simp only [Nat.testBit_or, Bool.or_eq_true, Nat.testBit_two_pow, decide_eq_true_eq] at hb
      rcases hb with (hb | hb) | hb
      · obtain ⟨e', he', h1, h2⟩ := anc_bits hm1 b hb
        exact ⟨e', List.mem_cons_of_mem _ he', h1, h2⟩
      · exact ⟨e, List.mem_cons_self, hbind, y, hy, .inl hb.symm⟩
      · exact ⟨e, List.mem_cons_self, hbind, y, hy, .inr hb⟩
    · simp only [Option.some.injEq] at hm; subst hm
      obtain ⟨e', he', h1, h2⟩ := anc_bits hm1 b hb
      exact ⟨e', List.mem_cons_of_mem _ he', h1, h2⟩
theorem anc_edges {E : List DE} : ∀ {es : List Edge} {m : Nat}, ancOf E es = some m → ∀ e ∈ es, Region.binds .any e = true → e.on < E.length
  | e :: es, m, hm, e', he, hb => by
    simp only [ancOf, Option.bind_eq_some_iff] at hm
    obtain ⟨m1, hm1, hm⟩ := hm
    rcases List.mem_cons.1 he with rfl | he
    · rw [if_pos hb] at hm
      simp only [Option.map_eq_some_iff] at hm
      obtain ⟨y, hy, _⟩ := hm
      exact atE_lt hy
    · exact anc_edges hm1 e' he hb
  | [], _, _, _, he, _ => by simp at he
/-- The bits of what must come before lie below. -/
theorem bits_lt : ∀ {E : List DE} {c : Nat}, Good P call ops h tm c0 E c → ∀ j x, atE E j = some x → ∀ b, x.m.testBit b = true → b < j := by
  intro E c hg j x hx
  obtain ⟨A, r, rfl, hl, ho, hr⟩ := good_at hg hx
  intro b hb
  obtain ⟨e, he, hbind, y, hy, hor⟩ := anc_bits hr.anc b hb
  have h1 := atE_lt hy
  rcases hor with rfl | hb2
  · omega
  · obtain ⟨c1, hg1⟩ := good_suffix (A := A) hg
    have := bits_lt hg1.1 e.on y hy b hb2
    omega
termination_by E => E.length
decreasing_by simp_all; omega
end Go.Abs
/- A region that draws its order: whatever comes first. -/
namespace Go.Abs
variable {P : Program} {call : CallF} {ops : Array Oper} {h : Tr Blk} {tm : List AV} {c0 : Nat}
theorem foldH_eq {S M : Nat → Bool} {n : Nat} : ∀ {E : List DE}, (∀ i y, atE E i = some y → S i = true → M i = false → n ∉ y.lg) → (∀ i, i < E.length → M i = true → S i = true) → (foldH S h E).get n = (foldH M h E).get n
  | [], _, _ => rfl
  | x :: r, h1, h2 => by
    have ih := foldH_eq (E := r) (fun i y hy => h1 i y (by simp only [atE]; rw [if_neg (by have := atE_lt hy; omega)]; exact hy)) (fun i hi => h2 i (by simp; omega))
    have hx : atE (x :: r) r.length = some x := by simp [atE]
    simp only [foldH]
    cases hS : S r.length <;> cases hM : M r.length
    · simpa using ih
    · have := h2 r.length (by simp) hM; rw [hS] at this; cases this
    · simp only [if_true, Bool.false_eq_true, if_false, setAll_get, if_neg (h1 _ _ hx hS hM)]; exact ih
    · simp only [if_true, setAll_get, ih]
theorem foldH_below {M : Nat → Bool} : ∀ {A r : List DE}, (∀ i, r.length ≤ i → M i = false) → foldH M h (A ++ r) = foldH M h r
  | [], _, _ => rfl
  | y :: A, r, hM => by
    simp only [List.cons_append, foldH]
    rw [hM _ (by simp)]
    simpa using foldH_below hM
theorem foldH_congr {S S' : Nat → Bool} : ∀ {E : List DE}, (∀ i, i < E.length → S i = S' i) → foldH S h E = foldH S' h E
  | [], _ => rfl
  | x :: r, hS => by
    simp only [foldH]
    rw [hS r.length (by simp), foldH_congr fun i hi => hS i (by simp; omega)]
theorem foldT_congr {S S' : Nat → Bool} : ∀ {E : List DE}, (∀ i, i < E.length → S i = S' i) → foldT S tm E = foldT S' tm E
  | [], _ => rfl
  | x :: r, hS => by
    simp only [foldT]
    rw [hS r.length (by simp), foldT_congr fun i hi => hS i (by simp; omega)]
theorem foldT_below {M : Nat → Bool} : ∀ {A r : List DE}, (∀ i, r.length ≤ i → M i = false) → foldT M tm (A ++ r) = foldT M tm r
  | [], _, _ => rfl
  | y :: A, r, hM => by
    simp only [List.cons_append, foldT]
    rw [hM _ (by simp)]
    simpa using foldT_below hM
theorem putA_length (d : Option Tmp) (v : AV) (tm : List AV) : (putA d v tm).length = tm.length := by cases d <;> simp [putA, setR_eq]
theorem foldT_length (S : Nat → Bool) : ∀ (E : List DE), (foldT S tm E).length = tm.length
  | [] => rfl
  | x :: r => by
    simp only [foldT]
    split
    · rw [putA_length, foldT_length S r]
    · exact foldT_length S r
theorem putA_get {d : Option Tmp} {v : AV} {tm : List AV} {t : Nat} (hd : d ≠ some t) : (putA d v tm)[t]? = tm[t]? := by
  cases d with
  | none => rfl
  | some d => simp only [putA, setR_eq]; rw [List.getElem?_set_ne]; intro e0; exact hd (e0 ▸ rfl)
theorem putA_get_congr {d : Option Tmp} {v : AV} {tm tm' : List AV} {t : Nat} (hl : tm.length = tm'.length) (ht : tm[t]? = tm'[t]?) : (putA d v tm)[t]? = (putA d v tm')[t]? := by
  cases d with
  | none => exact ht
  | some d =>
    simp only [putA, setR_eq, List.getElem?_set]
    split
    · rw [hl]
    · exact ht
theorem foldT_eq {S M : Nat → Bool} {t : Nat} : ∀ {E : List DE}, (∀ i y, atE E i = some y → S i = true → M i = false → y.o.dst ≠ some t) → (∀ i, i < E.length → M i = true → S i = true) → (foldT S tm E)[t]? = (foldT M tm E)[t]?
  | [], _, _ => rfl
  | x :: r, h1, h2 => by
    have ih := foldT_eq (E := r) (fun i y hy => h1 i y (by simp only [atE]; rw [if_neg (by have := atE_lt hy; omega)]; exact hy)) (fun i hi => h2 i (by simp; omega))
    have hx : atE (x :: r) r.length = some x := by simp [atE]
    simp only [foldT]
    cases hS : S r.length <;> cases hM : M r.length
    · simpa using ih
    · have := h2 r.length (by simp) hM; rw [hS] at this; cases this
    · simp only [if_true, Bool.false_eq_true, if_false]; rw [putA_get (h1 _ _ hx hS hM)]; exact ih
    · simp only [if_true]; exact putA_get_congr (by rw [foldT_length, foldT_length]) ih
theorem putA_comm {d d' : Option Tmp} {v v' : AV} {tm : List AV} (hd : ∀ t, d = some t → d' ≠ some t) : putA d v (putA d' v' tm) = putA d' v' (putA d v tm) := by
  cases d with
  | none => rfl
  | some t =>
    cases d' with
    | none => rfl
    | some t' => simp only [putA, setR_eq]; exact List.set_comm _ _ (fun e0 => hd t rfl (e0 ▸ rfl))
def plus (S : Nat → Bool) (j : Nat) : Nat → Bool := fun i => S i || i == j
theorem plus_ne {S : Nat → Bool} {i j : Nat} (h : i ≠ j) : plus S j i = S i := by simp [plus, h]
theorem foldH_plus {S : Nat → Bool} {x : DE} {r : List DE} (hS : S r.length = false) {n : Nat} : ∀ {A : List DE}, (∀ i y, atE (A ++ x :: r) i = some y → i ≠ r.length → S i = true → x.m.testBit i = false → n ∈ x.lg → n ∉ y.lg) → (∀ b, x.m.testBit b = true → b < r.length) →
    (foldH (plus S r.length) h (A ++ x :: r)).get n = if n ∈ x.lg then x.hp.get n else (foldH S h (A ++ x :: r)).get n
  | [], _, _ => by
    simp only [List.nil_append, foldH, hS, Bool.false_eq_true, if_false]
    rw [if_pos (by simp [plus]), setAll_get, foldH_congr (S := plus S r.length) (S' := S) fun i hi => plus_ne (by omega)]
  | y :: A, hd, hb => by
    have ih := foldH_plus hS (A := A) (fun i z hz => hd i z (by simp only [List.cons_append, atE]; rw [if_neg (by have := atE_lt hz; omega)]; exact hz)) hb
    have hy : atE (y :: A ++ x :: r) (A ++ x :: r).length = some y := by simp [atE]
    have hne : (A ++ x :: r).length ≠ r.length := by simp; omega
    simp only [List.cons_append, foldH]
    rw [plus_ne hne]
    split
    · rename_i hSy
      simp only [setAll_get, ih]
      by_cases h1 : n ∈ y.lg
      · have : n ∉ x.lg := fun h2 => hd _ _ hy hne hSy (by
          cases hbt : x.m.testBit (A ++ x :: r).length with
          | false => rfl
          | true => have := hb _ hbt; simp at this; omega) h2 h1
        simp [h1, this]
      · simp [h1]
    · exact ih
theorem foldT_plus {S : Nat → Bool} {x : DE} {r : List DE} (hS : S r.length = false) : ∀ {A : List DE}, (∀ i y, atE (A ++ x :: r) i = some y → i ≠ r.length → S i = true → x.m.testBit i = false → ∀ t, x.o.dst = some t → y.o.dst ≠ some t) → (∀ b, x.m.testBit b = true → b < r.length) →
    foldT (plus S r.length) tm (A ++ x :: r) = putA x.o.dst x.v (foldT S tm (A ++ x :: r))
  | [], _, _ => by
    simp only [List.nil_append, foldT, hS, Bool.false_eq_true, if_false]
    rw [if_pos (by simp [plus]), foldT_congr (S := plus S r.length) (S' := S) fun i hi => plus_ne (by omega)]
  | y :: A, hd, hb => by
    have ih := foldT_plus hS (A := A) (fun i z hz => hd i z (by simp only [List.cons_append, atE]; rw [if_neg (by have := atE_lt hz; omega)]; exact hz)) hb
    have hy : atE (y :: A ++ x :: r) (A ++ x :: r).length = some y := by simp [atE]
    have hne : (A ++ x :: r).length ≠ r.length := by simp; omega
    simp only [List.cons_append, foldT]
    rw [plus_ne hne]
    split
    · rename_i hSy
      rw [ih]
      refine (putA_comm fun t ht => ?_).symm
      exact hd _ _ hy hne hSy (by
          cases hbt : x.m.testBit (A ++ x :: r).length with
          | false => rfl
          | true => have := hb _ hbt; simp at this; omega) t ht
    · exact ih
/-- Two that no edge orders. -/
structure Un (ops : Array Oper) (x y : DE) : Prop where
  ih : ∀ n, n ∈ y.lg → x.ih.get n = none
  lg : ∀ n, n ∈ y.lg → n ∉ x.lg
  looks : ∀ d, y.o.dst = some d → d ∉ x.o.looksAt ops
  dst : ∀ d, x.o.dst = some d → y.o.dst ≠ some d
theorem pairB_un {x y : DE} (hp : pairB ops x y = true) : Un ops x y ∧ Un ops y x := by
  simp only [pairB, Bool.and_eq_true, List.all_eq_true, Option.isNone_iff_eq_none, Bool.not_eq_true', List.contains_eq_mem, decide_eq_false_iff_not] at hp
  obtain ⟨⟨⟨h1, h2⟩, h3⟩, h4⟩ := hp
  obtain ⟨a1, a2, a3⟩ := Oper.apart_spec h4
  exact ⟨⟨h2, h3, a3, a2⟩, ⟨h1, fun n hx hy => h3 n hy hx, a1, fun d hd e0 => a2 d e0 hd⟩⟩
def Closed (E : List DE) (S : Nat → Bool) : Prop := ∀ i x, atE E i = some x → S i = true → ∀ b, x.m.testBit b = true → S b = true
theorem un_of {E : List DE} {c : Nat} (hg : Good P call ops h tm c0 E c) {S : Nat → Bool} (hS : Closed E S) {j : Nat} {x : DE} (hx : atE E j = some x) (hj : S j = false) {i : Nat} {y : DE} (hy : atE E i = some y) (hi : S i = true) (hb : x.m.testBit i = false) : Un ops x y := by
  have hij : i ≠ j := fun e0 => by subst e0; rw [hi] at hj; cases hj
  rcases Nat.lt_or_gt_of_ne hij with hlt | hgt
  · obtain ⟨A, r, rfl, hl, _, hr⟩ := good_at hg hx
    have hyr : atE r i = some y := by
      have e1 := atE_append (A := A) (r := x :: r) (i := i) (by simp; omega)
      rw [e1] at hy
      simp only [atE] at hy
      rwa [if_neg (by omega)] at hy
    exact (pairB_un (hr.pairs i y hyr hb)).1
  · obtain ⟨A, r, rfl, hl, _, hr⟩ := good_at hg hy
    have hxr : atE r j = some x := by
      have e1 := atE_append (A := A) (r := y :: r) (i := j) (by simp; omega)
      rw [e1] at hx
      simp only [atE] at hx
      rwa [if_neg (by omega)] at hx
    have hbj : y.m.testBit j = false := by
      cases hb2 : y.m.testBit j with
      | false => rfl
      | true => have := hS i y hy hi j hb2; rw [hj] at this; cases this
    exact (pairB_un (hr.pairs j x hxr hbj)).2
theorem ranges : ∀ {E : List DE} {c : Nat}, Good P call ops h tm c0 E c → c0 ≤ c ∧ ∀ i x, atE E i = some x → c0 ≤ x.c ∧ x.c ≤ x.c' ∧ x.c' ≤ c ∧ ∀ k y, atE E k = some y → k < i → y.c' ≤ x.c
  | [], c, hg => ⟨by have : c = c0 := hg
                     omega, fun i x hx => by simp [atE] at hx⟩
  | z :: r, c, hg => by
    obtain ⟨hg1, rfl, _, hr⟩ := hg
    obtain ⟨h1, h2⟩ := ranges hg1
    have hz : z.c ≤ z.c' := by rcases hr.run with ⟨_, _, hc⟩ | ⟨_, _, _, hc⟩ <;> omega
    refine ⟨by omega, fun i x hx => ?_⟩
    simp only [atE] at hx
    split at hx
    · simp only [Option.some.injEq] at hx; subst hx
      refine ⟨h1, hz, Nat.le_refl _, fun k y hy hk => ?_⟩
      simp only [atE] at hy
      rw [if_neg (by omega)] at hy
      exact (h2 k y hy).2.2.1
    · obtain ⟨a1, a2, a3, a4⟩ := h2 i x hx
      refine ⟨a1, a2, by omega, fun k y hy hk => ?_⟩
      have := atE_lt hx
      simp only [atE] at hy
      rw [if_neg (by omega)] at hy
      exact a4 k y hy hk
end Go.Abs
/- A region that draws its order: the whole. -/
namespace Go.Abs
variable {P : Program} {call : CallF} {ops : Array Oper}
structure Inv (e0 : Env) (s : St) (w0 : World) (tm : List AV) (ds : List Deferred) (E : List DE) (S : Nat → Bool) (e : Env) (a : Act) (w : World) : Prop where
  le : e0.le e
  rng : ∀ n, e n ≠ none → e0 n ≠ none ∨ ∃ i x, atE E i = some x ∧ S i = true ∧ x.c ≤ n ∧ n < x.c'
  sim : Sim e ⟨foldH S s.heap E, 0, []⟩ w
  own : ∀ b, b < w0.heap.size → Own e ⟨foldH S s.heap E, 0, []⟩ b → Own e0 s b
  met : ∀ b, b < w0.heap.size → Met e ⟨foldH S s.heap E, 0, []⟩ b → Met e0 s b
  frame : ∀ b, b < w0.heap.size → ¬ Own e0 s b → w.heap[b]? = w0.heap[b]?
  size : w0.heap.size ≤ w.heap.size
  os : w.os = w0.os
  tape : w.tape = w0.tape
  output : w.output = w0.output
  tm : ∃ ts, concL e (foldT S tm E) = some ts ∧ a.tmps = ts.toArray
  df : a.defers = ds
  closed : Closed E S
theorem reads_mask {e : Env} {α : Operand → Option AV} {ρ : Operand → Value} {L : List Tmp} {tm : List AV} (h : Reads e (arg tm) ρ) (hα : α = argM L tm) : Reads e α ρ := by
  subst hα
  intro x u hu
  cases x with
  | tmp t =>
    simp only [argM] at hu
    split at hu
    · exact h (.tmp t) u hu
    · cases hu
  | const v => exact h (.const v) u hu
  | global g => exact h (.global g) u hu
  | func f => exact h (.func f) u hu
theorem own_congr {e : Env} {s s' : St} (h : ∀ n, s.heap.get n = s'.heap.get n) {b : Nat} (o : Own e s b) : Own e s' b := by
  obtain ⟨n, x, q, h1, h2⟩ := o; exact ⟨n, x, q, h n ▸ h1, h2⟩
theorem met_congr {e : Env} {s s' : St} (h : ∀ n, s.heap.get n = s'.heap.get n) {b : Nat} (o : Met e s b) : Met e s' b := by
  obtain ⟨n, x, q, h1, h2⟩ := o; exact ⟨n, x, q, h n ▸ h1, h2⟩
theorem inv_step (hcall : CallOk P call) {e0 : Env} {s : St} {w0 : World} {tm : List AV} {ds : List Deferred} {E : List DE} {c : Nat} (hg : Good P call ops s.heap tm s.next E c) (hf : Free e0 s.next c)
    {S : Nat → Bool} {e : Env} {a : Act} {w : World} (hI : Inv e0 s w0 tm ds E S e a w) {j : Nat} {x : DE} (hx : atE E j = some x) (hj : S j = false) (hm : ∀ b, x.m.testBit b = true → S b = true)
    (b : Frame) (cs : List Frame) (rest : List Nat) (k : List Item) :
    ∃ e' a' w', Inv e0 s w0 tm ds E (plus S j) e' a' w' ∧ Steps P (lone (b.atR a (.inRegion ops (j :: rest) :: k)) cs w) (lone (b.atR a' (.inRegion ops rest :: k)) cs w') := by
  obtain ⟨A, r, rfl, hl, ho, hr⟩ := good_at hg hx
  subst hl
  have hbits : ∀ b, x.m.testBit b = true → b < r.length := bits_lt hg _ _ hx
  have hun : ∀ i y, atE (A ++ x :: r) i = some y → S i = true → x.m.testBit i = false → Un ops x y := fun i y hy hi hb => un_of hg hI.closed hx hj hy hi hb
  have hhigh : ∀ i, r.length ≤ i → x.m.testBit i = false := fun i hi => by
    cases hb : x.m.testBit i with
    | false => rfl
    | true => have := hbits i hb; omega
  have hfoldM : foldH x.m.testBit s.heap (A ++ x :: r) = x.ih := by
    have h1 : foldH x.m.testBit s.heap (A ++ x :: r) = foldH x.m.testBit s.heap (x :: r) := by
      have e1 : A ++ x :: r = (A ++ [x]) ++ r := by simp
      rw [e1, foldH_below hhigh]
      simp only [foldH, hhigh _ (Nat.le_refl _), Bool.false_eq_true, if_false]
    rw [h1, hr.ih]
    simp only [foldH, hhigh _ (Nat.le_refl _), Bool.false_eq_true, if_false]
  have hfoldTM : foldT x.m.testBit tm (A ++ x :: r) = foldT x.m.testBit tm r := by
    have e1 : A ++ x :: r = (A ++ [x]) ++ r := by simp
    rw [e1, foldT_below hhigh]
  have hheap : ∀ n, ((x.ih.get n).isSome ∨ n ∈ x.lg) → (foldH S s.heap (A ++ x :: r)).get n = x.ih.get n := fun n hn => by
    rw [← hfoldM]
    refine foldH_eq (fun i y hy hi hb => ?_) (fun i _ hi => hm i hi)
    intro hny
    rcases hn with h1 | h1
    · rw [(hun i y hy hi hb).ih n hny] at h1; cases h1
    · exact (hun i y hy hi hb).lg n hny h1
  have hslot : ∀ t, t ∈ x.o.looksAt ops → (foldT S tm (A ++ x :: r))[t]? = (foldT x.m.testBit tm r)[t]? := fun t ht => by
    rw [← hfoldTM]
    exact foldT_eq (fun i y hy hi hb hd => (hun i y hy hi hb).looks t hd ht) (fun i _ hi => hm i hi)
  have hclosed : Closed (A ++ x :: r) (plus S r.length) := by
    intro i y hy hi b' hb'
    simp only [plus, Bool.or_eq_true, beq_iff_eq] at hi ⊢
    rcases hi with hi | rfl
    · exact .inl (hI.closed i y hy hi b' hb')
    · rw [hx] at hy; cases hy; exact .inl (hm b' hb')
  have hH : ∀ n, (foldH (plus S r.length) s.heap (A ++ x :: r)).get n = if n ∈ x.lg then x.hp.get n else (foldH S s.heap (A ++ x :: r)).get n := fun n =>
    foldH_plus hj (fun i y hy _ hi hb hn hny => (hun i y hy hi hb).lg n hny hn) hbits
  have hT : foldT (plus S r.length) tm (A ++ x :: r) = putA x.o.dst x.v (foldT S tm (A ++ x :: r)) :=
    foldT_plus hj (fun i y hy _ hi hb t ht => (hun i y hy hi hb).dst t ht) hbits
  obtain ⟨ts, hts, hta⟩ := hI.tm
  have hwant : wantedA ops x.o (foldT x.m.testBit tm r) = Region.wanted x.o (yielded ops a.tmps) := by
    rw [hta, ← wantedA_eq (ops := ops) (o := x.o) hts]
    unfold wantedA
    cases hgd : x.o.guard with
    | none => rfl
    | some gd =>
      obtain ⟨gi, want⟩ := gd
      simp only
      cases hd : (ops[gi]?).bind (·.dst) with
      | none => rfl
      | some d =>
        have hlk : d ∈ x.o.looksAt ops := by simp [Oper.looksAt, hgd, hd]
        simp only [Option.bind_some, hslot d hlk]
  rcases hr.run with ⟨hw, hX, hc⟩ | ⟨hw, hv, hlg, hc⟩
  · have hw' : Region.wanted x.o (yielded ops a.tmps) = true := hwant ▸ hw
    have hα : argM (x.o.looksAt ops) (foldT x.m.testBit tm r) = argM (x.o.looksAt ops) (foldT S tm (A ++ x :: r)) := by
      funext y
      cases y with
      | tmp t =>
        simp only [argM]
        split
        · rename_i ht
          rw [List.contains_eq_mem, decide_eq_true_eq] at ht
          simp only [getR_eq, List.getD_eq_getElem?_getD, hslot t ht]
        · rfl
      | _ => rfl
    have hrd : Reads e (argM (x.o.looksAt ops) (foldT x.m.testBit tm r)) a.eval := reads_mask (reads_arg hts a hta) hα
    have hsub : SubH ⟨x.ih, x.c, []⟩ ⟨foldH S s.heap (A ++ x :: r), x.c, []⟩ := fun n z hz => by
      show (foldH S s.heap (A ++ x :: r)).get n = some z
      rw [hheap n (.inl (by rw [show x.ih.get n = some z from hz]; rfl))]; exact hz
    have hsimT : Sim e ⟨foldH S s.heap (A ++ x :: r), x.c, []⟩ w := ⟨hI.sim.at_, hI.sim.inj, hI.sim.bound⟩
    have hsimI : Sim e ⟨x.ih, x.c, []⟩ w := hsimT.sub hsub
    obtain ⟨r1, r2, r3, r4⟩ := (ranges hg).2 _ _ hx
    have hfree : Free e x.c x.c' := by
      intro n h1 h2
      cases hn : e n with
      | none => rfl
      | some p =>
        rcases hI.rng n (by simp [hn]) with h3 | ⟨i, y, hy, hi, h4, h5⟩
        · exact absurd (hf n (by omega) (by omega)) h3
        · exfalso
          have hij : i ≠ r.length := fun e0 => by subst e0; rw [hj] at hi; cases hi
          rcases Nat.lt_or_gt_of_ne hij with hlt | hgt
          · have := r4 i y hy hlt; omega
          · have := ((ranges hg).2 i y hy).2.2.2 _ _ hx hgt; omega
    obtain ⟨e', w', g1, g2, xv, hxv, hst⟩ := opX_run (b := b) (cs := cs) hcall hX hsimI hrd hfree ho hw' rest k
    obtain ⟨q1, q2, q2m, q3⟩ := over_sim hsimT hsub g2 g1 (fun n hn => hheap n (.inr hn))
    have hget : ∀ n, (St.over ⟨foldH S s.heap (A ++ x :: r), x.c, []⟩ ⟨x.hp, x.c', x.lg⟩).heap.get n = (foldH (plus S r.length) s.heap (A ++ x :: r)).get n := fun n => by
      rw [hH]; simp only [St.over, setAll_get]
    refine ⟨e', a.put x.o.dst xv, w', ⟨hI.le.trans g2.le, ?_, ?_, ?_, ?_, ?_, Nat.le_trans hI.size g2.size, g2.os.trans hI.os, g2.tape.trans hI.tape, g2.output.trans hI.output, ?_, by rw [put_defers]; exact hI.df, hclosed⟩, hst⟩
    · intro n hn
      rcases g2.rng n hn with h1 | ⟨h1, h2⟩
      · rcases hI.rng n h1 with h3 | ⟨i, y, hy, hi, h4, h5⟩
        · exact .inl h3
        · exact .inr ⟨i, y, hy, by simp [plus, hi], h4, h5⟩
      · exact .inr ⟨r.length, x, hx, by simp [plus], h1, h2⟩
    · exact q1.sub fun n z hz => by rw [hget n]; exact hz
    · intro bb hbb o'
      have o1 := q2 bb (Nat.lt_of_lt_of_le hbb hI.size) (own_congr (s' := St.over _ _) (fun n => (hget n).symm) o')
      exact hI.own bb hbb o1
    · intro bb hbb o'
      have o1 := q2m bb (Nat.lt_of_lt_of_le hbb hI.size) (met_congr (s' := St.over _ _) (fun n => (hget n).symm) o')
      exact hI.met bb hbb o1
    · intro bb hbb no
      have hno : ¬ Own e ⟨foldH S s.heap (A ++ x :: r), x.c, []⟩ bb := fun o' => no (hI.own bb hbb o')
      exact (q3 bb (Nat.lt_of_lt_of_le hbb hI.size) hno).trans (hI.frame bb hbb no)
    · obtain ⟨us, h1, h2⟩ := put_tm (concL_le g2.le _ _ hts) hta x.o.dst hxv
      exact ⟨us, by rw [hT]; exact h1, h2⟩
  · have hw' : Region.wanted x.o (yielded ops a.tmps) = false := hwant ▸ hw
    have hget : ∀ n, (foldH (plus S r.length) s.heap (A ++ x :: r)).get n = (foldH S s.heap (A ++ x :: r)).get n := fun n => by rw [hH, hlg]; simp
    have hstep := stepR_op_skip (P := P) (b := b) (a := a) (k := k) (cs := cs) (w := w) (ops := ops) (i := r.length) (rest := rest) (by simp only [ho, Option.map_some, Option.getD_some, hw'])
    simp only [ho, Option.bind_some] at hstep
    refine ⟨e, a.put x.o.dst undef, w, ⟨hI.le, ?_, ?_, ?_, ?_, hI.frame, hI.size, hI.os, hI.tape, hI.output, ?_, by rw [put_defers]; exact hI.df, hclosed⟩, .one hstep⟩
    · intro n hn
      rcases hI.rng n hn with h3 | ⟨i, y, hy, hi, h4, h5⟩
      · exact .inl h3
      · exact .inr ⟨i, y, hy, by simp [plus, hi], h4, h5⟩
    · exact hI.sim.sub fun n z hz => by rw [← hget n]; exact hz
    · intro bb hbb o'
      exact hI.own bb hbb (own_congr (s' := ⟨foldH S s.heap (A ++ x :: r), 0, []⟩) (fun n => hget n) o')
    · intro bb hbb o'
      exact hI.met bb hbb (met_congr (s' := ⟨foldH S s.heap (A ++ x :: r), 0, []⟩) (fun n => hget n) o')
    · obtain ⟨us, h1, h2⟩ := put_tm hts hta x.o.dst (conc_undef e)
      exact ⟨us, by rw [hT, hv]; exact h1, h2⟩
def unlisted : Nat → Array Bool → Nat
  | 0, _ => 0
  | n + 1, l => unlisted n l + (if l.getD n true then 0 else 1)
theorem unlisted_set {l : Array Bool} {i : Nat} (hi : l.getD i true = false) : ∀ n, i < n → unlisted n l = unlisted n (l.setIfInBounds i true) + 1
  | 0, h => by omega
  | n + 1, h => by
    have hlt : i < l.size := by
      by_cases hl : i < l.size
      · exact hl
      · rw [Array.getD_eq_getD_getElem?, Array.getElem?_eq_none (by omega)] at hi; cases hi
    have same : ∀ m, m ≤ i → unlisted m (l.setIfInBounds i true) = unlisted m l := by
      intro m
      induction m with
      | zero => intro _; rfl
      | succ m ih =>
        intro hm
        simp only [unlisted, ih (by omega)]
        have : (l.setIfInBounds i true).getD m true = l.getD m true := by
          simp only [Array.getD_eq_getD_getElem?]; rw [Array.getElem?_setIfInBounds_ne (by omega)]
        rw [this]
    by_cases e0 : i = n
    · subst e0
      simp only [unlisted, same i (Nat.le_refl _), hi]
      have : (l.setIfInBounds i true).getD i true = true := by simp [Array.getD_eq_getD_getElem?, hlt]
      rw [this]; simp
    · simp only [unlisted, unlisted_set hi n (by omega)]
      have : (l.setIfInBounds i true).getD n true = l.getD n true := by
        simp only [Array.getD_eq_getD_getElem?]; rw [Array.getElem?_setIfInBounds_ne e0]
      rw [this]; omega
theorem unlisted_zero {l : Array Bool} : ∀ n, unlisted n l = 0 → ∀ i, i < n → l.getD i true = true
  | 0, _, i, hi => by omega
  | n + 1, h, i, hi => by
    simp only [unlisted] at h
    by_cases e0 : i = n
    · subst e0
      cases hl : l.getD i true with
      | true => rfl
      | false => rw [hl] at h; simp at h
    · exact unlisted_zero n (by omega) i (by omega)
theorem first_unlisted {l : Array Bool} : ∀ n, unlisted n l ≠ 0 → ∃ i, i < n ∧ l.getD i true = false ∧ ∀ k, k < i → l.getD k true = true
  | 0, h => absurd rfl h
  | n + 1, h => by
    by_cases h0 : unlisted n l = 0
    · refine ⟨n, by omega, ?_, fun k hk => unlisted_zero n h0 k hk⟩
      simp only [unlisted, h0] at h
      cases hl : l.getD n true with
      | false => rfl
      | true => rw [hl] at h; simp at h
    · obtain ⟨i, h1, h2, h3⟩ := first_unlisted n h0
      exact ⟨i, by omega, h2, h3⟩
end Go.Abs
/- A region that draws its order, as the machine runs it. -/
namespace Go.Abs
variable {P : Program} {call : CallF} {ops : Array Oper}
theorem mem_ready' {l : Array Bool} {i : Nat} (h : i ∈ Region.ready .any ops l) : i < ops.size ∧ l.getD i true = false ∧ ∀ o, ops[i]? = some o → ∀ e ∈ o.after.toList, Region.binds .any e = true → l.getD e.on false = true := by
  simp only [Region.ready, List.mem_filter, List.mem_range, Bool.and_eq_true, Bool.not_eq_true'] at h
  refine ⟨h.1, h.2.1, fun o ho e he hb => ?_⟩
  have h2 := h.2.2
  simp only [ho, Option.map_some, Option.getD_some] at h2
  have := (Array.all_eq_true_iff_forall_mem.1 h2) e (by simpa using he)
  simpa [hb] using this
theorem ready_mem {l : Array Bool} {i : Nat} (h1 : i < ops.size) (h2 : l.getD i true = false) (h3 : ∀ o, ops[i]? = some o → ∀ e ∈ o.after.toList, Region.binds .any e = true → l.getD e.on false = true) : i ∈ Region.ready .any ops l := by
  simp only [Region.ready, List.mem_filter, List.mem_range, Bool.and_eq_true, Bool.not_eq_true']
  refine ⟨h1, h2, ?_⟩
  have ho : ops[i]? = some ops[i] := by simp [h1]
  simp only [ho, Option.map_some, Option.getD_some]
  rw [Array.all_eq_true_iff_forall_mem]
  intro e he
  cases hb : Region.binds .any e with
  | false => rfl
  | true => simp [h3 _ ho e (by simpa using he) hb]
theorem getD_tf {l : Array Bool} {i : Nat} (h : i < l.size) : l.getD i true = l.getD i false := by simp [Array.getD_eq_getD_getElem?, h]
theorem draw_loop (hcall : CallOk P call) {e0 : Env} {s : St} {w0 : World} {tm : List AV} {ds : List Deferred} {E : List DE} {c : Nat} (hg : Good P call ops s.heap tm s.next E c) (hE : E.length = ops.size) (hf : Free e0 s.next c)
    (b : Frame) (cs : List Frame) (k : List Item) : ∀ (fuel t : Nat) (l : Array Bool) (e : Env) (a : Act) (w : World), l.size = ops.size → unlisted ops.size l = fuel → Inv e0 s w0 tm ds E (fun i => l.getD i false) e a w →
    ∃ e' a' w', Inv e0 s w0 tm ds E (fun i => decide (i < ops.size)) e' a' w' ∧
      Steps P (lone (b.atR a (.inRegion ops (Region.linearise.go .any ops fuel t l []) :: k)) cs w) (lone (b.atR a' (.inRegion ops [] :: k)) cs w')
  | 0, t, l, e, a, w, hl, hu, hI => by
    have hS : (fun i => l.getD i false) = fun i => decide (i < ops.size) := by
      funext i
      by_cases hi : i < ops.size
      · have := unlisted_zero _ hu i hi
        rw [getD_tf (by omega)] at this
        simp [this, hi]
      · simp [Array.getD_eq_getD_getElem?, Array.getElem?_eq_none (show l.size ≤ i by omega), hi]
    rw [hS] at hI
    exact ⟨e, a, w, hI, by simpa [Region.linearise.go] using Steps.refl P _⟩
  | fuel + 1, t, l, e, a, w, hl, hu, hI => by
    have hne : Region.ready .any ops l ≠ [] := by
      obtain ⟨i, h1, h2, h3⟩ := first_unlisted (l := l) ops.size (by omega)
      obtain ⟨x, hx⟩ := atE_some (E := E) (j := i) (by omega)
      obtain ⟨A, r, rfl, hlr, ho, hr⟩ := good_at hg hx
      have := ready_mem (l := l) h1 h2 (fun o ho' ed hed hb => by
        rw [ho] at ho'; cases ho'
        have := anc_edges hr.anc ed hed hb
        rw [← getD_tf (by omega)]; exact h3 _ (by omega))
      intro e0; rw [e0] at this; cases this
    have hlen : 0 < (Region.ready .any ops l).length := List.length_pos_iff.2 hne
    have hidx : t % (Region.ready .any ops l).length < (Region.ready .any ops l).length := Nat.mod_lt _ hlen
    obtain ⟨i, hi⟩ : ∃ i, (Region.ready .any ops l)[t % (Region.ready .any ops l).length]? = some i := ⟨_, List.getElem?_eq_getElem hidx⟩
    have hmem := List.mem_of_getElem? hi
    obtain ⟨h1, h2, h3⟩ := mem_ready' hmem
    obtain ⟨x, hx⟩ := atE_some (E := E) (j := i) (by omega)
    obtain ⟨A, r, hEq, hlr, ho, hr⟩ := good_at hg hx
    have hj : l.getD i false = false := by rw [← getD_tf (by omega)]; exact h2
    have hm : ∀ bt, x.m.testBit bt = true → l.getD bt false = true := by
      intro bt hbt
      obtain ⟨ed, hed, hbind, y, hy, hor⟩ := anc_bits hr.anc bt hbt
      have hS := h3 _ ho ed hed hbind
      have hyE : atE E ed.on = some y := by
        have hlt := atE_lt hy
        have e1 := atE_append (A := A ++ [x]) (r := r) hlt
        rw [hEq, show A ++ x :: r = (A ++ [x]) ++ r by simp, e1]; exact hy
      rcases hor with rfl | hb2
      · exact hS
      · exact hI.closed _ y hyE hS bt hb2
    obtain ⟨e1, a1, w1, hI1, hst⟩ := inv_step hcall hg hf hI hx hj hm b cs (Region.linearise.go .any ops fuel (t / (Region.ready .any ops l).length) (l.setIfInBounds i true) []) k
    have hS1 : plus (fun i => l.getD i false) i = fun k => (l.setIfInBounds i true).getD k false := by
      funext kk
      by_cases e0 : kk = i
      · subst e0; simp [plus, Array.getD_eq_getD_getElem?, show kk < l.size by omega]
      · rw [plus_ne e0]; simp only [Array.getD_eq_getD_getElem?]; rw [Array.getElem?_setIfInBounds_ne (Ne.symm e0)]
    rw [hS1] at hI1
    have hu1 : unlisted ops.size (l.setIfInBounds i true) = fuel := by
      have := unlisted_set (l := l) h2 ops.size h1; omega
    obtain ⟨e2, a2, w2, hI2, hst2⟩ := draw_loop hcall hg hE hf b cs k fuel (t / (Region.ready .any ops l).length) (l.setIfInBounds i true) e1 a1 w1 (by simp [hl]) hu1 hI1
    refine ⟨e2, a2, w2, hI2, ?_⟩
    have hgo : Region.linearise.go .any ops (fuel + 1) t l [] = i :: Region.linearise.go .any ops fuel (t / (Region.ready .any ops l).length) (l.setIfInBounds i true) [] := by
      simp only [Region.linearise.go]
      change (match (Region.ready .any ops l)[t % (Region.ready .any ops l).length]? with
        | some i => Region.linearise.go .any ops fuel (t / (Region.ready .any ops l).length) (l.setIfInBounds i true) [i]
        | none => [].reverse) = _
      rw [hi]
      simp only []
      rw [linearise_go_acc]; simp
    rw [hgo]
    exact hst.trans hst2
theorem logsOf_mem {l : List Nat} {n : Nat} : ∀ {E : List DE}, n ∈ logsOf E l ↔ n ∈ l ∨ ∃ i x, atE E i = some x ∧ n ∈ x.lg
  | [] => by simp [logsOf, atE]
  | x :: r => by
    simp only [logsOf, List.mem_append, logsOf_mem (E := r)]
    constructor
    · rintro (h | h | ⟨i, y, hy, hn⟩)
      · exact .inr ⟨r.length, x, by simp [atE], h⟩
      · exact .inl h
      · exact .inr ⟨i, y, by simp only [atE]; rw [if_neg (by have := atE_lt hy; omega)]; exact hy, hn⟩
    · rintro (h | ⟨i, y, hy, hn⟩)
      · exact .inr (.inl h)
      · simp only [atE] at hy
        split at hy
        · simp only [Option.some.injEq] at hy; subst hy; exact .inl hn
        · exact .inr (.inr ⟨i, y, hy, hn⟩)
theorem foldH_out {S : Nat → Bool} {h : Tr Blk} {n : Nat} : ∀ {E : List DE}, (∀ i x, atE E i = some x → n ∉ x.lg) → (foldH S h E).get n = h.get n
  | [], _ => rfl
  | x :: r, hn => by
    have ih := foldH_out (S := S) (h := h) (E := r) (fun i y hy => hn i y (by simp only [atE]; rw [if_neg (by have := atE_lt hy; omega)]; exact hy))
    simp only [foldH]
    split
    · rw [setAll_get, if_neg (hn r.length x (by simp [atE]))]; exact ih
    · exact ih
theorem evDraw_run (hcall : CallOk P call) {e : Env} {s s' : St} {w : World} {fr fr' : Fr} {b : Frame} {cs0 cs : List Frame} {a : Act} (h : evDraw P call ops fr s = some (fr', s')) (hs : Sim e s w) (hfr : FR e fr b cs0 a cs)
    (hf : Free e s.next s'.next) (t : Nat) (k : List Item) :
    ∃ e' w' a', Sim e' s' w' ∧ Goes e s w e' s' w' ∧ FR e' fr' b cs0 a' cs ∧ Steps P (lone (b.atR a (.inRegion ops (Region.linearise .any ops t) :: k)) cs w) (lone (b.atR a' (.inRegion ops [] :: k)) cs w') := by
  simp only [evDraw, Option.bind_eq_some_iff, Option.map_eq_some_iff] at h
  obtain ⟨inf, hinf, ⟨E, t', c⟩, hev, h⟩ := h
  simp only [Prod.mk.injEq] at h
  obtain ⟨rfl, rfl⟩ := h
  obtain ⟨hg, hE, htE⟩ := evDrawL_good (tm := fr.tm) (c0 := s.next) (E := []) hinf rfl hev rfl (fun j => by simp)
  subst htE
  have hE' : E.length = ops.size := by simpa using hE
  obtain ⟨ts, hts, hta⟩ := hfr.tm
  have hS0 : ∀ i, (Array.replicate ops.size false).getD i false = false := fun i => by
    by_cases hi : i < ops.size
    · simp [Array.getD_eq_getD_getElem?, hi]
    · simp [Array.getD_eq_getD_getElem?, hi]
  have hS0' : (fun i => (Array.replicate ops.size false).getD i false) = fun _ => false := funext hS0
  have hH0 : ∀ E : List DE, foldH (fun _ => false) s.heap E = s.heap := by
    intro E; induction E with
    | nil => rfl
    | cons x r ih => simp [foldH, ih]
  have hT0 : ∀ E : List DE, foldT (fun _ => false) fr.tm E = fr.tm := by
    intro E; induction E with
    | nil => rfl
    | cons x r ih => simp [foldT, ih]
  have hI0 : Inv e s w fr.tm a.defers E (fun i => (Array.replicate ops.size false).getD i false) e a w := by
    rw [hS0']
    refine ⟨Env.le.refl e, fun n hn => .inl hn, ?_, ?_, ?_, fun _ _ _ => rfl, Nat.le_refl _, rfl, rfl, rfl, ⟨ts, by rw [hT0]; exact hts, hta⟩, rfl, ?_⟩
    · rw [hH0]; exact ⟨hs.at_, hs.inj, hs.bound⟩
    · rw [hH0]; exact fun bb _ o => o
    · rw [hH0]; exact fun bb _ o => o
    · intro i x _ hi; simp at hi
  have hu0 : unlisted ops.size (Array.replicate ops.size false) = ops.size := by
    suffices h : ∀ m n, n ≤ m → unlisted n (Array.replicate m false) = n from h _ _ (Nat.le_refl _)
    intro m n
    induction n with
    | zero => intro _; rfl
    | succ n ih =>
      intro hn
      simp only [unlisted, ih (by omega)]
      simp [Array.getD_eq_getD_getElem?, show n < m by omega]
  obtain ⟨e', a', w', hI, hst⟩ := draw_loop hcall hg hE' hf b cs k ops.size t _ e a w (by simp) hu0 hI0
  have hSt : ∀ i, i < E.length → (fun i => decide (i < ops.size)) i = (fun _ => true) i := fun i hi => by simp; omega
  rw [show Region.linearise .any ops t = Region.linearise.go .any ops ops.size t (Array.replicate ops.size false) [] from rfl]
  have hsim := hI.sim
  rw [foldH_congr hSt] at hsim
  refine ⟨e', w', a', ⟨hsim.at_, hsim.inj, hsim.bound⟩, ⟨hI.le, ?_, ?_, ?_, hI.frame, hI.size, hI.os, hI.tape, hI.output, ?_, ?_, (ranges hg).1⟩, ⟨?_, ?_, ?_, ?_⟩, hst⟩
  · intro n hn
    rcases hI.rng n hn with h1 | ⟨i, x, hx, _, h2, h3⟩
    · exact .inl h1
    · obtain ⟨r1, r2, r3, _⟩ := (ranges hg).2 i x hx
      exact .inr ⟨by omega, by show n < c; omega⟩
  · intro bb hbb o
    refine hI.own bb hbb ?_
    rw [foldH_congr hSt]; exact own_congr (fun n => rfl) o
  · intro bb hbb o
    refine hI.met bb hbb ?_
    rw [foldH_congr hSt]; exact met_congr (fun n => rfl) o
  · intro n hn
    have hn' : n ∉ logsOf E s.log := hn
    rw [logsOf_mem, not_or] at hn'
    exact foldH_out fun i x hx hnx => hn'.2 ⟨i, x, hx, hnx⟩
  · intro n hn
    show n ∈ logsOf E s.log
    rw [logsOf_mem]; exact .inl hn
  · obtain ⟨us, h1, h2⟩ := hI.tm
    rw [foldT_congr hSt] at h1
    exact ⟨us, h1, h2⟩
  · rw [hI.df]; exact concDL_le hI.le hfr.df
  · exact (hfr.le hI.le).ro
  · exact (hfr.le hI.le).rc
end Go.Abs
/- Code. -/
namespace Go.Abs
variable {P : Program}
noncomputable def loopA (s : St) (l : Nat) : Option (LoopState × Option Code × List AV × Array Tmp × Code × Code × Nat) :=
  match s.heap.get l with
  | some (.loop st pend tm ps aas bd d) => some (st, pend, tm, ps, aas, bd, d)
  | _ => none
/-- A loop's record is laid. -/
noncomputable def enterA (fr : Fr) (ps : Array Tmp) (aas bd : Code) (s : St) : Option (Nat × Fr × St) :=
  match fr.ro with
  | none => some (s.next + 1, { fr with df := .coll s.next :: fr.df }, (s.add .defr).add (.loop .ready none fr.tm ps aas bd s.next))
  | some l => (loopA s l).map fun r => (s.next, fr, s.add (.loop .ready none fr.tm ps aas bd r.2.2.2.2.2.2))
noncomputable def leaveLoopA (l : Nat) (s : St) : Option (Ex × St) :=
  (loopA s l).bind fun r => match r with
  | (st, pend, tm, ps, aas, bd, d) => if st = .busy then none else
    (match pend with | none => some Ex.norm | some .ret => some .ret | some (.exit id) => some (.exit id) | _ => none).map fun x => (x, s.put l (.loop .exhausted pend tm ps aas bd d))
noncomputable def evCode (P : Program) (call : CallF) : Nat → Code → Fr → St → Option (Ex × Fr × St)
  | 0, _, _, _ => none
  | n + 1, c, fr, s =>
    match c with
    | .skip | .label _ => some (.norm, fr, s)
    | .exit id => some (.exit id, fr, s)
    | .ret => some (.ret, fr, s)
    | .region _ ops false => (evOps P call ops ops.toList fr s).map fun r => (match r.1 with | none => .norm | some v => .pan v, r.2)
    | .region _ ops true => if P.follows .mixedOrders then (evDraw P call ops fr s).map fun r => (.norm, r) else none
    | .seq a b => (evCode P call n a fr s).bind fun r => match r with
      | (.norm, fr1, s1) => (evCode P call n b fr1 s1).bind fun y => if s1.next ≤ y.2.2.next then some y else none
      | r => some r
    | .cond c t e => (arg fr.tm c).bind fun v => match v with
      | .bool b => evCode P call n (if b then t else e) fr s
      | _ => none
    | .block id body => (evCode P call n body fr s).map fun r => match r with
      | (.exit id', fr1, s1) => if id' = id then (.norm, fr1, s1) else (.exit id', fr1, s1)
      | r => r
    | .scope body => evCode P call n body fr s
    | .loop body => (evCode P call n body fr s).bind fun r => match r with
      | (.norm, fr1, s1) => (evCode P call n (.loop body) fr1 s1).bind fun y => if s1.next ≤ y.2.2.next then some y else none
      | r => some r
    | .rangeFunc g ps aas bd => (arg fr.tm g).bind fun v => match v with
      | .func f first cap => if enterable P f then
        (enterA fr ps aas bd s).bind fun (l, fr1, s1) => (call (.fn f) (first ++ [.yld l] ++ cap) s1).bind fun (r, s2) => if s1.next ≤ s2.next then
          match r with
          | .pan v => some (.pan v, fr1, s2)
          | .ret _ => (leaveLoopA l s2).map fun (x, s3) => (x, fr1, s3)
        else none
        else none
      | _ => none
    | _ => none
def Lands (P : Program) (m : Machine) (b : Frame) (k : List Item) (e : Env) : Ex → Act → List Frame → World → Prop
  | .norm, a, cs, w => Steps P m (lone (b.atR a k) cs w)
  | .exit id, a, cs, w => ∃ K, exitTo id K = exitTo id k ∧ Steps P m (lone (b.atR a (.code (.exit id) :: K)) cs w)
  | .ret, a, cs, w => ∃ K, Steps P m (lone (b.atR a (.code .ret :: K)) cs w)
  | .pan v, a, cs, w => Panics P m b a cs w e v
theorem Lands.of_steps {m m₁ : Machine} {b : Frame} {k : List Item} {e : Env} {x : Ex} {a : Act} {cs : List Frame} {w : World} (h : Steps P m m₁) (h' : Lands P m₁ b k e x a cs w) : Lands P m b k e x a cs w := by
  cases x with
  | norm => exact h.trans h'
  | exit id => obtain ⟨K, h1, h2⟩ := h'; exact ⟨K, h1, h.trans h2⟩
  | ret => obtain ⟨K, h2⟩ := h'; exact ⟨K, h.trans h2⟩
  | pan v => obtain ⟨x, hx, todo, h2⟩ := h'; exact ⟨x, hx, todo, h.trans h2⟩
/-- What does not end normally passes an item that catches nothing. -/
theorem Lands.pass {m : Machine} {b : Frame} {i : Item} {k : List Item} {e : Env} {x : Ex} {a : Act} {cs : List Frame} {w : World} (hi : ∀ id, exitTo id (i :: k) = exitTo id k) (hx : x ≠ .norm) (h : Lands P m b (i :: k) e x a cs w) : Lands P m b k e x a cs w := by
  cases x with
  | norm => exact absurd rfl hx
  | exit id => obtain ⟨K, h1, h2⟩ := h; exact ⟨K, h1.trans (hi id), h2⟩
  | ret => exact h
  | pan v => exact h
section
variable {b : Frame} {a : Act} {k : List Item} {cs : List Frame} {w : World}
theorem stepR_scope {c : Code} : step P (lone (b.atR a (.code (.scope c) :: k)) cs w) = .next (lone (b.atR a (.code c :: .inScope c :: k)) cs w) :=
  step_lone_go (by simp [stepG, stepG.exec, Frame.atR])
theorem stepR_inScope {c : Code} : step P (lone (b.atR a (.inScope c :: k)) cs w) = .next (lone (b.atR a k) cs w) :=
  step_lone_go (by simp [stepG, stepG.exec, Frame.atR])
end
theorem loopA_eq {s : St} {l : Nat} {r : LoopState × Option Code × List AV × Array Tmp × Code × Code × Nat} (h : loopA s l = some r) : s.heap.get l = some (.loop r.1 r.2.1 r.2.2.1 r.2.2.2.1 r.2.2.2.2.1 r.2.2.2.2.2.1 r.2.2.2.2.2.2) := by
  unfold loopA at h
  split at h <;> simp only [reduceCtorEq, Option.some.injEq] at h
  rename_i hx; subst h; exact hx
theorem enterA_run {e : Env} {s s' : St} {w : World} {fr fr' : Fr} {b : Frame} {cs0 cs : List Frame} {a : Act} {ps : Array Tmp} {aas bd : Code} {l : Nat} (h : enterA fr ps aas bd s = some (l, fr', s')) (hs : Sim e s w) (hfr : FR e fr b cs0 a cs) (hf : Free e s.next s'.next) :
    ∃ e' w' mark p, Sim e' s' w' ∧ Goes e s w e' s' w' ∧ e' l = some p ∧ (Instr.enterLoop b.fn a.tmps ps aas bd b.roundOf).run P w = .ok (p.1, mark) w' ∧ FR e' fr' b cs0 { a with defers := mark ++ a.defers } cs := by
  obtain ⟨⟨ts, hts, hta⟩, hdf, hro, hrc⟩ := hfr
  unfold enterA at h
  split at h
  · rename_i hr
    simp only [Option.some.injEq, Prod.mk.injEq] at h
    obtain ⟨rfl, rfl, rfl⟩ := h
    simp only [hr] at hro
    have f1 : e s.next = none := hf _ (Nat.le_refl _) (by simp only [St.add]; omega)
    obtain ⟨g1, g2⟩ := hs.add (blk := .defr) (ob := .deferred (some [])) (w' := { w with heap := w.heap.push (.deferred (some [])) }) 0 f1 (by simp) (by simp) (fun k hk => by rw [Array.getElem?_push, if_neg (by omega)]) rfl rfl rfl rfl
    have f2 : (e.upd s.next (w.heap.size, 0)) (s.add .defr).next = none := by
      rw [Env.upd_ne _ _ (by simp [St.add])]; exact hf _ (by simp [St.add]) (by simp [St.add])
    let W1 : World := { w with heap := w.heap.push (.deferred (some [])) }
    let ob : Obj := .loop { state := .ready, pending := none, fn := b.fn, tmps := ts.toArray, params := ps, assign := aas, body := bd, defers := w.heap.size }
    have hle1 := Env.le_upd (w.heap.size, 0) f1
    obtain ⟨q1, q2⟩ := g1.add (blk := .loop .ready none fr.tm ps aas bd s.next) (ob := ob) (w' := { W1 with heap := W1.heap.push ob }) 0 f2 (by simp [W1]) Array.getElem?_push_size (fun k hk => by simp only [W1]; rw [Array.getElem?_push, if_neg (by simpa using Nat.ne_of_lt hk)])
      ⟨b.fn, ts, (w.heap.size, 0), concL_le (Env.le_upd _ f2) _ _ (concL_le hle1 _ _ hts), Env.le_upd _ f2 _ _ (Env.upd_self ..), rfl⟩ rfl rfl rfl
    refine ⟨_, _, [{ target := .collected w.heap.size, args := #[] }], _, q1, g2.trans q2, Env.upd_self .., ?_, ?_⟩
    · simp only [hro, hta, Instr.enterLoop, Sem.run_bind, run_newObj, Result.andThen_ok, Sem.run_pure]; rfl
    · refine FR.le (g2.trans q2).le ⟨⟨ts, hts, hta⟩, ?_, by simp only [hr]; exact hro, hrc⟩ |> fun r => ⟨r.tm, ?_, r.ro, r.rc⟩
      · exact hdf
      · simp only [concDL, concD, List.singleton_append]
        have hc : (Env.upd (e.upd s.next (w.heap.size, 0)) (s.add .defr).next (W1.heap.size, 0)) s.next = some (w.heap.size, 0) := Env.le_upd _ f2 _ _ (Env.upd_self ..)
        rw [show (Env.upd (e.upd s.next (w.heap.size, 0)) (s.add .defr).next (({ w with heap := w.heap.push (.deferred (some [])) } : World).heap.size, 0)) s.next = some (w.heap.size, 0) from hc]
        simp only [Option.map_some, Option.bind_some, concDL_le (g2.trans q2).le hdf]
  · rename_i l0 hr
    simp only [Option.map_eq_some_iff, Prod.mk.injEq] at h
    obtain ⟨r, hl, rfl, rfl, rfl⟩ := h
    simp only [hr] at hro
    obtain ⟨p0, hp0, hbr⟩ := hro
    obtain ⟨b0, q0, ob0, he0, hb0, fn0, ts0, pd, h1, h2, rfl⟩ := hs.at_ _ _ (loopA_eq hl)
    rw [hp0] at he0; cases he0
    have f1 : e s.next = none := hf _ (Nat.le_refl _) (by simp [St.add])
    let ob : Obj := .loop { state := .ready, pending := none, fn := b.fn, tmps := ts.toArray, params := ps, assign := aas, body := bd, defers := pd.1 }
    have hle1 := Env.le_upd (w.heap.size, 0) f1
    obtain ⟨q1, q2⟩ := hs.add (blk := .loop .ready none fr.tm ps aas bd r.2.2.2.2.2.2) (ob := ob) (w' := { w with heap := w.heap.push ob }) 0 f1 (by simp) (by simp) (fun k hk => by rw [Array.getElem?_push, if_neg (by omega)])
      ⟨b.fn, ts, pd, concL_le hle1 _ _ hts, hle1 _ _ h2, rfl⟩ rfl rfl rfl
    have hgo : (getObj b0).run P w = .ok (.loop { state := r.1, pending := r.2.1, fn := fn0, tmps := ts0.toArray, params := r.2.2.2.1, assign := r.2.2.2.2.1, body := r.2.2.2.2.2.1, defers := pd.1 }) w := by simp [getObj, Sem.run, hb0]
    refine ⟨_, _, [], _, q1, q2, Env.upd_self .., ?_, ?_⟩
    · simp only [hbr, hta, Instr.enterLoop, Instr.getLoop, Sem.run_bind, hgo, run_newObj, Result.andThen_ok, Sem.run_pure]; rfl
    · exact (FR.le q2.le ⟨⟨ts, hts, hta⟩, hdf, by simp only [hr]; exact ⟨_, hp0, hbr⟩, hrc⟩)
theorem leaveLoopA_run {e : Env} {s s' : St} {w : World} {l : Nat} {x : Ex} (h : leaveLoopA l s = some (x, s')) (hs : Sim e s w) {p : Nat × Nat} (hp : e l = some p) :
    ∃ w' jump, Sim e s' w' ∧ Goes e s w e s' w' ∧ (Instr.endLoop p.1).run P w = .ok jump w' ∧ match x with
      | .norm => jump = none
      | .ret => jump = some .ret
      | .exit id => jump = some (.exit id)
      | .pan _ => False := by
  simp only [leaveLoopA, Option.bind_eq_some_iff] at h
  obtain ⟨⟨st, pend, tm, ps, aas, bd, d⟩, hl, h⟩ := h
  simp only at h
  split at h
  · cases h
  rename_i hst
  simp only [Option.map_eq_some_iff, Prod.mk.injEq] at h
  obtain ⟨y, hy, rfl, rfl⟩ := h
  have hget := loopA_eq hl
  obtain ⟨b0, q0, ob0, he0, hb0, fn0, ts0, pd, h1, h2, rfl⟩ := hs.at_ _ _ hget
  rw [hp] at he0; cases he0
  have hlt : b0 < w.heap.size := (Array.getElem?_eq_some_iff.1 hb0).1
  let L : Loop := { state := st, pending := pend, fn := fn0, tmps := ts0.toArray, params := ps, assign := aas, body := bd, defers := pd.1 }
  have hgo : (getObj b0).run P w = .ok (.loop L) w := by simp [getObj, Sem.run, hb0, L]
  let w' : World := { w with heap := w.heap.setIfInBounds b0 (.loop { L with state := .exhausted }) }
  have hset : (setObj b0 (.loop { L with state := .exhausted })).run P w = .ok () w' := by simp [setObj, Sem.run, hb0, w']
  obtain ⟨g1, g2⟩ := hs.put (blk' := .loop .exhausted pend tm ps aas bd d) (ob := .loop { L with state := .exhausted }) (w' := w') hget trivial hp (by simp [w']) (by simp [w', hlt]) (fun k hk => by simp [w', Array.getElem?_setIfInBounds_ne (Ne.symm hk)]) ⟨fn0, ts0, pd, h1, h2, rfl⟩ rfl rfl rfl
  refine ⟨w', pend, g1, g2, ?_, ?_⟩
  · have hst' : (L.state == LoopState.busy) = false := by simpa [L] using hst
    simp only [Instr.endLoop, Instr.getLoop, Sem.run_bind, hgo, Result.andThen_ok, Sem.run_pure, hst', Bool.false_eq_true, if_false, hset]
    rfl
  · revert hy; split <;> intro hy <;> simp only [Option.some.injEq, reduceCtorEq] at hy <;> subst hy <;> rfl
end Go.Abs

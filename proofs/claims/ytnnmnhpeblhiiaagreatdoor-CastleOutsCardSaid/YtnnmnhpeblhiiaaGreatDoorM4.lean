/- A part of the proof: a run of the program on abstract values, shown to be a run of the machine. -/
import Derived.Test.YtnnmnhpeblhiiaaGreatDoorM3
import Derived.Laws.CopyRow
import Derived.Laws.Append
import Derived.MapFrom
set_option linter.unusedVariables false
set_option linter.unusedSimpArgs false
/- Operations that only compute: their run. -/
namespace Go.Abs
variable {P : Program}
theorem argL_map {e : Env} {α : Operand → Option AV} {ρ : Operand → Value} (h : Reads e α ρ) {xs : Array Operand} {us : List AV} (hu : argL α xs.toList = some us) : concL e us = some (xs.map ρ).toList := by
  rw [Array.toList_map]; exact reads_argL h _ _ hu
theorem concL_one {e : Env} {v : AV} {xs : List Value} (h : concL e [v] = some xs) : ∃ x, conc e v = some x ∧ xs = [x] := by
  simp only [concL, Option.bind_eq_some_iff, Option.map_eq_some_iff, Option.some.injEq] at h
  obtain ⟨x, hx, _, rfl, rfl⟩ := h
  exact ⟨x, hx, rfl⟩
theorem concL_cons {e : Env} {v : AV} {vs : List AV} {xs : List Value} (h : concL e (v :: vs) = some xs) : ∃ x ys, conc e v = some x ∧ concL e vs = some ys ∧ xs = x :: ys := by
  simp only [concL, Option.bind_eq_some_iff, Option.map_eq_some_iff] at h
  obtain ⟨x, hx, ys, hys, rfl⟩ := h
  exact ⟨x, ys, hx, hys, rfl⟩
theorem arr_eq {xs : Array Value} {l : List Value} (h : xs.toList = l) : xs = l.toArray := by subst h; simp
set_option maxHeartbeats 1000000 in
theorem pureOp_run {e : Env} {α : Operand → Option AV} {ρ : Operand → Value} (hr : Reads e α ρ) {o : Oper} {v : AV} (h : pureOp P o α = some v) (w : World) :
    ∃ x, conc e v = some x ∧ (execOp ρ o).run P w = .ok (.value x) w := by
  unfold pureOp at h
  split at h
  case h_1 x ho => exact ⟨_, hr x v h, by simp [execOp, ho]⟩
  case h_2 x ho => exact ⟨_, hr x v h, by simp [execOp, ho]⟩
  case h_3 c a b ho =>
    simp only [Option.bind_eq_some_iff] at h
    obtain ⟨t, ht, h⟩ := h
    have hc := hr c t ht
    split at h
    · simp only [conc, Option.some.injEq] at hc
      exact ⟨_, hr a v h, by simp [execOp, ho, ← hc, asBool]⟩
    · simp only [conc, Option.some.injEq] at hc
      exact ⟨_, hr b v h, by simp [execOp, ho, ← hc, asBool]⟩
    · cases h
  case h_4 x ho =>
    simp only [Option.bind_eq_some_iff] at h
    obtain ⟨a, ha, h⟩ := h
    have hx := hr x a ha
    split at h <;> simp only [reduceCtorEq, Option.some.injEq] at h <;> subst h <;> refine ⟨_, hx, ?_⟩ <;>
      simp only [conc, Option.map_eq_some_iff, Option.bind_eq_some_iff] at hx <;> (first | obtain ⟨_, _, hx⟩ := hx | skip) <;> (first | obtain ⟨_, _, hx⟩ := hx | skip) <;> simp [execOp, ho, ← hx]
  case h_5 op t x y yt ho =>
    simp only [Option.bind_eq_some_iff] at h
    obtain ⟨a, ha, b, hb, h⟩ := h
    split at h
    · rename_i hg
      obtain ⟨u, hu, hrun⟩ := binV_run P h (hr x a ha) (hr y b hb) w
      exact ⟨u, hu, by simp [execOp, ho, eqGuard_run P hg (hr x a ha) (hr y b hb) w, hrun]⟩
    · cases h
  case h_6 op t x ho =>
    simp only [Option.bind_eq_some_iff] at h
    obtain ⟨a, ha, h⟩ := h
    have hx := hr x a ha
    split at h <;> simp only [reduceCtorEq, Option.some.injEq] at h <;> subst h <;> simp only [conc, Option.some.injEq] at hx
    · exact ⟨_, rfl, by simp [execOp, ho, ← hx, Op.unary]⟩
    · exact ⟨_, rfl, by simp [execOp, ho, ← hx, Op.unary, Op.intArith]⟩
  case h_7 s d x ho =>
    simp only [Option.bind_eq_some_iff] at h
    obtain ⟨a, ha, h⟩ := h
    have hx := hr x a ha
    split at h
    · rename_i h1 h2
      simp only [Option.some.injEq] at h; subst h
      simp only [conc, Option.some.injEq] at hx
      refine ⟨_, rfl, ?_⟩
      simp [execOp, ho, ← hx, convert, run_underlying h1, run_underlying h2, Conv.intToInt]
    · rename_i h1 h2
      simp only [Option.some.injEq] at h; subst h
      simp only [conc, Option.some.injEq] at hx
      refine ⟨_, rfl, ?_⟩
      simp [execOp, ho, ← hx, convert, run_underlying h1, run_underlying h2]
    · cases h
  case h_8 t x ho =>
    split at h
    · rename_i hc
      simp only [Option.map_eq_some_iff] at h
      obtain ⟨a, ha, rfl⟩ := h
      exact ⟨_, by simp only [conc, hr x a ha, Option.map_some]; rfl, by simp [execOp, ho, run_makeInterface w t _ hc]⟩
    · cases h
  case h_9 f aas cs ho =>
    simp only [Option.bind_eq_some_iff, Option.map_eq_some_iff] at h
    obtain ⟨a, ha, c, hc, rfl⟩ := h
    refine ⟨_, by simp only [conc, argL_map hr ha, argL_map hr hc, Option.bind_some, Option.map_some]; rfl, ?_⟩
    simp [execOp, ho, Instr.makeFunc, ← List.map_toArray]
  case h_10 x i ho =>
    simp only [Option.bind_eq_some_iff] at h
    obtain ⟨a, ha, h⟩ := h
    have hx := hr x a ha
    split at h
    · simp only [conc, Option.map_eq_some_iff] at hx
      obtain ⟨us, hus, hx⟩ := hx
      obtain ⟨u, hu, hv⟩ := concL_get hus _ _ h
      exact ⟨u, hv, by simp [execOp, ho, ← hx, Instr.extract, hu]⟩
    · cases h
  case h_11 t x i ho =>
    simp only [Option.bind_eq_some_iff] at h
    obtain ⟨fs, hfs, f, hf, k, hk, h⟩ := h
    split at h
    · cases h
    · rename_i hk0
      simp only [Option.bind_eq_some_iff] at h
      obtain ⟨a, ha, h⟩ := h
      have hx := hr x a ha
      split at h
      · simp only [Option.some.injEq] at h; subst h
        simp only [conc, Option.map_eq_some_iff] at hx
        obtain ⟨p, hp, hx⟩ := hx
        refine ⟨_, by simp only [conc, hp, Option.map_some]; rfl, ?_⟩
        simp [execOp, ho, ← hx, Instr.fieldAt, run_underlying (fieldsA_eq P hfs), hf, Instr.sureAddr, fieldPlace, szA_run P hk w, hk0, addr_add]
      · cases h
  case h_12 t x i ho =>
    simp only [Option.bind_eq_some_iff] at h
    obtain ⟨fs, hfs, f, hf, a, ha, h⟩ := h
    have hx := hr x a ha
    split at h
    · simp only [conc, Option.map_eq_some_iff] at hx
      obtain ⟨us, hus, hx⟩ := hx
      obtain ⟨u, hu1, hu2⟩ := partA_run P h hus w
      exact ⟨u, hu1, by simp [execOp, ho, ← hx, Instr.field, run_underlying (fieldsA_eq P hfs), hf, asAgg, hu2]⟩
    · cases h
  case h_13 t x i ho =>
    simp only [Option.bind_eq_some_iff] at h
    obtain ⟨a, ha, b, hb, h⟩ := h
    obtain ⟨u, hu, hrun⟩ := indexAddrA_run h (hr x a ha) (hr i b hb) w
    exact ⟨u, hu, by simp [execOp, ho, hrun]⟩
  case h_14 t x i ho =>
    simp only [Option.bind_eq_some_iff] at h
    obtain ⟨a, ha, b, hb, h⟩ := h
    obtain ⟨u, hu, hrun⟩ := indexA_run h (hr x a ha) (hr i b hb) w
    exact ⟨u, hu, by simp [execOp, ho, hrun]⟩
  case h_15 t x lo hi mx ho =>
    simp only [Option.bind_eq_some_iff] at h
    obtain ⟨a, ha, l, hl, hh, hhh, m, hm, h⟩ := h
    obtain ⟨u, hu, hrun⟩ := sliceA_run h (hr x a ha) (optArg_conc hr hl) (optArg_conc hr hhh) (optArg_conc hr hm) w
    exact ⟨u, hu, by simp [execOp, ho, hrun]⟩
  case h_16 t ps ho =>
    simp only [Option.bind_eq_some_iff] at h
    obtain ⟨qs, hqs, h⟩ := h
    obtain ⟨u, hu, hrun⟩ := buildA_run P h (argP_conc hr _ _ hqs) w
    refine ⟨u, hu, ?_⟩
    have : (ps.map fun (i, x) => (i, ρ x)) = (ps.toList.map fun (i, x) => (i, ρ x)).toArray := by rw [← List.map_toArray]
    simp only [execOp, ho, this]
    simp [hrun]
  case h_17 x xt t ok ho =>
    simp only [Option.bind_eq_some_iff] at h
    obtain ⟨a, ha, h⟩ := h
    obtain ⟨u, hu, hrun⟩ := assertA_run h (hr x a ha) w
    exact ⟨u, hu, by simp [execOp, ho, hrun]⟩
  case h_18 args ats ho =>
    simp only [Option.bind_eq_some_iff] at h
    obtain ⟨vs, hvs, h⟩ := h
    split at h
    · rename_i v0 t ht
      simp only [Option.map_eq_some_iff] at h
      obtain ⟨n, hn, rfl⟩ := h
      obtain ⟨x, hx, hl⟩ := concL_one (argL_map hr hvs)
      refine ⟨_, rfl, ?_⟩
      simp [execOp, ho, resolve, invoke, builtin, arr_eq hl, lenA_run P ht hn hx w]
    · cases h
  case h_19 args ats ho =>
    simp only [Option.bind_eq_some_iff] at h
    obtain ⟨vs, hvs, h⟩ := h
    split at h
    · obtain ⟨x, ys, hx, hys, hl⟩ := concL_cons (argL_map hr hvs)
      obtain ⟨y, hy, hrun⟩ := maxA_run P w _ _ _ _ _ h hx hys
      refine ⟨y, hy, ?_⟩
      simp [execOp, ho, resolve, invoke, builtin, arr_eq hl, Builtin.max_, hrun]
    · cases h
  case h_20 args ats ho =>
    simp only [Option.bind_eq_some_iff] at h
    obtain ⟨vs, hvs, h⟩ := h
    split at h
    · obtain ⟨x, ys, hx, hys, hl⟩ := concL_cons (argL_map hr hvs)
      obtain ⟨y, hy, hrun⟩ := minA_run P w _ _ _ _ _ h hx hys
      refine ⟨y, hy, ?_⟩
      simp [execOp, ho, resolve, invoke, builtin, arr_eq hl, Builtin.min_, hrun]
    · cases h
  case h_21 => cases h
end Go.Abs
/- Operations on memory: cells. -/
namespace Go.Abs
theorem cells_at {e : Env} {q : Nat} {t : TypeId} {k : Option Nat} {cs : List AV} {ob : Obj} (h : BlkRel e q (.cells t k cs) ob) :
    ∃ vs rest, concL e cs = some vs ∧ ob = .cells (vs ++ rest).toArray t (0, 0) ∧ (k = none → rest = []) ∧ (∀ m, k = some m → (vs ++ rest).length = q * m) := by
  cases k with
  | none => obtain ⟨vs, h1, h2⟩ := h; exact ⟨vs, [], h1, by simpa using h2, fun _ => rfl, by simp⟩
  | some k => obtain ⟨vs, rest, h1, h2, h3⟩ := h; exact ⟨vs, rest, h1, h2, by simp, fun m hm => by cases hm; exact h3⟩
theorem cells_mk {e : Env} {q : Nat} {t : TypeId} {k : Option Nat} {cs : List AV} {vs rest : List Value} (h : concL e cs = some vs) (h1 : k = none → rest = []) (h2 : ∀ m, k = some m → (vs ++ rest).length = q * m) :
    BlkRel e q (.cells t k cs) (.cells (vs ++ rest).toArray t (0, 0)) := by
  cases k with
  | none => exact ⟨vs, h, by simp [h1 rfl]⟩
  | some k => exact ⟨vs, rest, h, rfl, h2 k rfl⟩
variable {P : Program}
theorem load_run {w : World} {b o n : Nat} {vs rest : List Value} {t : TypeId} {fz : Nat × Nat} (hb : w.heap[b]? = some (.cells (vs ++ rest).toArray t fz)) (h : o + n ≤ vs.length) :
    (loadCells ⟨b, o, none⟩ n).run P w = .ok ((vs.drop o).take n).toArray w := by
  have hl : ((vs.drop o).take n).length = n := by simp; omega
  have := run_loadCells_list (P := P) w ⟨b, o, none⟩ ((vs.drop o).take n) (by
    intro j v hj
    rw [addr_add]
    simp only [World.cell?, hb]
    simp only [List.getElem?_take] at hj
    split at hj
    · rename_i hjn
      simp only [List.getElem?_drop] at hj
      simp only [Option.isSome_none, Bool.false_eq_true, if_false, List.getElem?_toArray]
      rw [List.getElem?_append_left (by omega)]
      exact hj
    · cases hj)
  rw [hl] at this
  exact this
theorem load1_run {w : World} {b o : Nat} {vs rest : List Value} {t : TypeId} {fz : Nat × Nat} {v : Value} (hb : w.heap[b]? = some (.cells (vs ++ rest).toArray t fz)) (h : vs[o]? = some v) :
    (load ⟨b, o, none⟩).run P w = .ok v w := by
  have ho : o < vs.length := (List.getElem?_eq_some_iff.1 h).1
  simp [World.cell?, hb, List.getElem?_append_left ho, h]
def oneA : AV → Bool
  | .agg _ | .tup _ => false
  | _ => true
theorem oneA_conc {e : Env} {v : AV} {x : Value} (h : oneA v = true) (hx : conc e v = some x) : x.oneCell' = true := by
  cases v <;> simp only [conc, Option.some.injEq, Option.map_eq_some_iff, Option.bind_eq_some_iff] at hx <;>
    first | (simp [oneA] at h; done) | (subst hx; rfl) | (obtain ⟨_, _, rfl⟩ := hx; rfl) | (obtain ⟨_, _, _, _, rfl⟩ := hx; rfl)
theorem oneA_list {e : Env} : ∀ {vs : List AV} {xs : List Value}, vs.all oneA = true → concL e vs = some xs → ∀ x ∈ xs, x.oneCell' = true
  | [], _, _, h => by simp [concL] at h; subst h; simp
  | v :: vs, xs, ha, h => by
    obtain ⟨x, ys, hx, hys, rfl⟩ := concL_cons h
    simp only [List.all_cons, Bool.and_eq_true] at ha
    intro z hz
    rcases List.mem_cons.1 hz with rfl | hz
    · exact oneA_conc ha.1 hx
    · exact oneA_list ha.2 hys z hz
def spl {α : Type} (o : Nat) (vs cs : List α) : List α := cs.take o ++ vs ++ cs.drop (o + vs.length)
theorem spl_conc {e : Env} {vs cs : List AV} {xs ys : List Value} (o : Nat) (h : concL e vs = some xs) (k : concL e cs = some ys) : concL e (spl o vs cs) = some (spl o xs ys) := by
  unfold spl
  rw [← concL_length h]
  exact concL_append (concL_append (concL_take k o) h) (concL_drop k _)
theorem spl_app {α : Type} {o : Nat} {vs cs rest : List α} (h : o + vs.length ≤ cs.length) : spl o vs (cs ++ rest) = spl o vs cs ++ rest := by
  unfold spl
  rw [List.take_append_of_le_length (by omega), List.drop_append_of_le_length h]
  simp
theorem spl_length {α : Type} {o : Nat} {vs cs : List α} (h : o + vs.length ≤ cs.length) : (spl o vs cs).length = cs.length := by
  simp [spl]; omega
/-- What is stored, and the world behind it. -/
theorem store_run {w : World} {b o : Nat} {vs rest xs : List Value} {t : TypeId} (hb : w.heap[b]? = some (.cells (vs ++ rest).toArray t (0, 0))) (h : o + xs.length ≤ (vs ++ rest).length) (h1 : ∀ x ∈ xs, x.oneCell' = true) :
    (storeCells ⟨b, o, none⟩ xs).run P w = .ok () (w.setRow b (spl o xs (vs ++ rest)).toArray) := by
  have := run_storeCells_at P b o t xs 0 (vs ++ rest).toArray w hb (by simpa using h) h1
  simpa [spl] using this
theorem alloc_sim {e : Env} {s : St} {w : World} (hs : Sim e s w) (hf : e s.next = none) (q : Nat) {t : TypeId} {k : Option Nat} {cs : List AV} {vs rest : List Value} (h : concL e cs = some vs) (h1 : k = none → rest = []) (h2 : ∀ m, k = some m → (vs ++ rest).length = q * m) (W : World)
    (hW : W.heap = w.heap ∧ W.os = w.os ∧ W.tape = w.tape ∧ W.output = w.output) :
    Sim (e.upd s.next (w.heap.size, q)) (s.add (.cells t k cs)) { W with heap := W.heap.push (.cells (vs ++ rest).toArray t) } ∧
    Goes e s w (e.upd s.next (w.heap.size, q)) (s.add (.cells t k cs)) { W with heap := W.heap.push (.cells (vs ++ rest).toArray t) } := by
  obtain ⟨w1, w2, w3, w4⟩ := hW
  refine hs.add q hf (by simp [w1]) (ob := .cells (vs ++ rest).toArray t (0, 0)) (by simp [w1]) (fun i hi => by simp only [w1]; rw [Array.getElem?_push, if_neg (by omega)]) ?_ w2 w3 w4
  exact (cells_mk h h1 h2).le (Env.le_upd _ hf)
noncomputable def St.get (s : St) (n : Nat) : Option (TypeId × Option Nat × List AV) :=
  match s.heap.get n with
  | some (.cells t k cs) => some (t, k, cs)
  | _ => none
theorem St.get_eq {s : St} {n : Nat} {t : TypeId} {k : Option Nat} {cs : List AV} (h : s.get n = some (t, k, cs)) : s.heap.get n = some (.cells t k cs) := by
  unfold St.get at h
  split at h <;> simp only [Option.some.injEq, Prod.mk.injEq, reduceCtorEq] at h
  rename_i hx; obtain ⟨rfl, rfl, rfl⟩ := h; exact hx
/-- What may be read of a block. -/
noncomputable def St.rd (s : St) (n : Nat) : Option (List AV) :=
  match s.heap.get n with
  | some (.cells _ _ cs) => some cs
  | some (.ro _ _ cs) => some cs
  | _ => none
theorem rd_at {e : Env} {s : St} {w : World} (hs : Sim e s w) {n : Nat} {cs : List AV} (h : s.rd n = some cs) : ∃ b q t vs rest, e n = some (b, q) ∧ w.heap[b]? = some (.cells (vs ++ rest).toArray t (0, 0)) ∧ concL e cs = some vs := by
  unfold St.rd at h
  split at h <;> simp only [Option.some.injEq, reduceCtorEq] at h
  · rename_i hx; subst h
    obtain ⟨b, q, ob, he, hb, hr⟩ := hs.at_ _ _ hx
    obtain ⟨vs, rest, hvs, rfl, _, _⟩ := cells_at hr
    exact ⟨b, q, _, vs, rest, he, hb, hvs⟩
  · rename_i hx; subst h
    obtain ⟨b, q, ob, he, hb, vs, rest, hvs, rfl, _⟩ := hs.at_ _ _ hx
    exact ⟨b, q, _, vs, rest, he, hb, hvs⟩
theorem rd_of_get {s : St} {n : Nat} {t : TypeId} {k : Option Nat} {cs : List AV} (h : s.get n = some (t, k, cs)) : s.rd n = some cs := by
  unfold St.rd; rw [St.get_eq h]
/-- What lies at an address. -/
noncomputable def loadA (P : Program) (t : TypeId) (v : AV) (s : St) : Option AV :=
  match v with
  | .ptr n o => (s.rd n).bind fun cs => (isAggA P t).bind fun g => if g then (szA P t).bind fun k => if o + k ≤ cs.length then some (.agg ((cs.drop o).take k)) else none else cs[o]?
  | _ => none
theorem loadA_run {e : Env} {s : St} {w : World} (hs : Sim e s w) {t : TypeId} {a v : AV} {x : Value} (h : loadA P t a s = some v) (hx : conc e a = some x) :
    ∃ y, conc e v = some y ∧ (Instr.loadAt t x).run P w = .ok y w := by
  unfold loadA at h
  split at h
  · rename_i n o
    simp only [Option.bind_eq_some_iff] at h
    obtain ⟨cs, hg, g, hgg, h⟩ := h
    obtain ⟨b, q, t', vs, rest, he, hb, hvs⟩ := rd_at hs hg
    simp only [conc, he, Option.map_some, Option.some.injEq] at hx
    subst hx
    have hl := concL_length hvs
    cases g with
    | true =>
      simp only [if_true, Option.bind_eq_some_iff] at h
      obtain ⟨k, hk, h⟩ := h
      split at h
      · rename_i hle
        simp only [Option.some.injEq] at h; subst h
        refine ⟨.agg ((vs.drop o).take k).toArray, by simp [conc, concL_take (concL_drop hvs o) k], ?_⟩
        simp [Instr.loadAt, Instr.sureAddr, loadVar, isAggA_run P hgg w, szA_run P hk w, load_run hb (by omega : o + k ≤ vs.length)]
      · cases h
    | false =>
      simp only [Bool.false_eq_true, if_false] at h
      obtain ⟨y, hy, hc⟩ := concL_get hvs _ _ h
      refine ⟨y, hc, ?_⟩
      have := load1_run (P := P) hb hy
      simp only [Instr.loadAt, Instr.sureAddr, loadVar, Sem.run_bind, Sem.run_pure, Result.andThen_ok, isAggA_run P hgg w, Bool.false_eq_true, if_false, this]
  · cases h
/-- What a store leaves. -/
noncomputable def storeA (P : Program) (t : TypeId) (a v : AV) (s : St) : Option St :=
  match a with
  | .ptr n o => (s.get n).bind fun (t', k', cs) => (szA P t).bind fun k => if (cellsA v).length = k ∧ o + k ≤ cs.length ∧ (cellsA v).all oneA then some (s.put n (.cells t' k' (spl o (cellsA v) cs))) else none
  | _ => none
theorem storeA_run {e : Env} {s s' : St} {w : World} (hs : Sim e s w) {t : TypeId} {a v : AV} {x y : Value} (h : storeA P t a v s = some s') (hx : conc e a = some x) (hy : conc e v = some y) :
    ∃ w', Sim e s' w' ∧ Goes e s w e s' w' ∧ (Instr.storeAt t x y).run P w = .ok () w' := by
  unfold storeA at h
  split at h
  · rename_i n o
    simp only [Option.bind_eq_some_iff] at h
    obtain ⟨⟨t', k', cs⟩, hg, k, hk, h⟩ := h
    split at h
    · rename_i hc
      simp only at hc
      simp only [Option.some.injEq] at h; subst h
      obtain ⟨b, q, ob, he, hb, hr⟩ := hs.at_ _ _ (St.get_eq hg)
      obtain ⟨vs, rest, hvs, rfl, hr1, hr2⟩ := cells_at hr
      simp only [conc, he, Option.map_some, Option.some.injEq] at hx
      subst hx
      have hl := concL_length hvs
      obtain ⟨ys, hys, hyc⟩ := cellsA_conc hy
      have hly := concL_length hys
      have hle : o + ys.length ≤ vs.length := by omega
      have hrun := store_run (P := P) hb (o := o) (xs := ys) (by simp; omega) (oneA_list hc.2.2 hys)
      rw [spl_app hle] at hrun
      have hput := hs.put (blk' := .cells t' k' (spl o (cellsA v) cs)) (w' := w.setRow b (spl o ys vs ++ rest).toArray) (St.get_eq hg) trivial he (by simp) (setRow_heap _ _ _ _ _ _ hb) (fun i hi => setRow_other _ _ _ _ hi)
        (cells_mk (spl_conc o hys hvs) hr1 (fun m hm => by rw [← hr2 m hm]; simp [spl_length hle])) rfl rfl rfl
      refine ⟨_, hput.1, hput.2, ?_⟩
      simp [Instr.storeAt, Instr.sureAddr, storeVar, szA_run P hk w, hyc, hly, hc.1, hrun]
    · cases h
  · cases h
end Go.Abs
/- append. -/
namespace Go.Abs
variable {P : Program}
/-- What the arguments of an append are good for, in the world and in one with another count of draws. -/
structure AppArgs (P : Program) (w : World) (st xt el : TypeId) (k bytes : Nat) (base : Option Addr) (sLen : Nat) (x : Value) (n : Nat) (old new : List Value) : Prop where
  st : P.underlying st = some (.slice el)
  xt : ∃ el', P.underlying xt = some (.slice el')
  info : ∃ i z, P.info? el = some i ∧ i.size = k ∧ i.bytes = bytes ∧ i.zero = some z ∧ z.cells.size = k
  len : Builtin.lenOf x = pure n
  newr : ∀ W : World, W.heap = w.heap → (Builtin.firstCells k n x).run P W = .ok new.toArray W
  oldr : ∀ W : World, W.heap = w.heap → (Builtin.firstCells k sLen (.slice base sLen 0)).run P W = .ok old.toArray W
  newl : new.length = n * k
  oldl : old.length = sLen * k
theorem AppArgs.old' {w : World} {st xt el : TypeId} {k bytes : Nat} {base : Option Addr} {sLen : Nat} {x : Value} {n : Nat} {old new : List Value} (h : AppArgs P w st xt el k bytes base sLen x n old new) (c : Nat) (W : World) (hW : W.heap = w.heap) :
    (Builtin.firstCells k sLen (.slice base sLen c)).run P W = .ok old.toArray W := by
  have := h.oldr W hW
  cases base <;> exact this
theorem append_grow {w : World} {st xt el ty : TypeId} {k bytes : Nat} {base : Option Addr} {sLen sCap : Nat} {x : Value} {n : Nat} {old new : List Value}
    (h : AppArgs P w st xt el k bytes base sLen x n old new) (hc : sCap < sLen + n) (hb : bytes ≠ 0) (hm : (sLen + n) * bytes ≤ 140737488355328) :
    ∃ newCap rest, (old ++ new ++ rest).length = newCap * k ∧
      (Builtin.append_ #[st, xt] ty #[.slice base sLen sCap, x]).run P w = .ok (.slice (some ⟨w.heap.size, 0, none⟩) (sLen + n) newCap) { w with drawn := w.drawn + 1, heap := w.heap.push (.cells (old ++ new ++ rest).toArray el) } := by
  obtain ⟨i, z, hi, hk, hby, hz, hzs⟩ := h.info
  obtain ⟨el', hxt⟩ := h.xt
  obtain ⟨newCap, hnc, hch⟩ : ∃ c, sLen + n ≤ c ∧ (choose (.appendCap (sLen + n) sCap el)).run P w = .ok c { w with drawn := w.drawn + 1 } :=
    ⟨(Question.appendCap (sLen + n) sCap el).cut (w.tape w.drawn (Question.appendCap (sLen + n) sCap el)), Nat.le_add_right _ _, by rw [run_choose]; rfl⟩
  refine ⟨newCap, (Builtin.zeroCells z.cells (newCap - (sLen + n))).toList, ?_, ?_⟩
  · have : (Builtin.zeroCells z.cells (newCap - (sLen + n))).toList.length = (newCap - (sLen + n)) * k := by simp [Builtin.zeroCells, hzs]
    rw [List.length_append, List.length_append, h.oldl, h.newl, this, ← Nat.add_mul, ← Nat.add_mul]
    congr 1; omega
  · have hfit := growslice_fits hc hm
    have g1 : ¬ (sLen + n ≤ sCap) := by omega
    have g2 : ¬ (Builtin.nextslicecap (sLen + n) sCap * bytes > 2 ^ 48) := by omega
    have hnew := h.newr { w with drawn := w.drawn + 1 } rfl
    have hold := h.old' sCap { w with drawn := w.drawn + 1 } rfl
    have hti : ∀ W : World, (typeInfo el).run P W = .ok i W := fun W => run_typeInfo W hi
    have hsz : ∀ W : World, (sizeOf el).run P W = .ok k W := fun W => by simp [sizeOf, hti W, hk]
    have hzv : ∀ W : World, (zeroValue el).run P W = .ok z W := fun W => by simp [zeroValue, hti W, hz]
    simp only [Builtin.append_, List.getElem?_toArray, List.getElem?_cons_zero, List.getElem?_cons_succ, Sem.run_bind, run_underlying h.st, run_underlying hxt, Result.andThen_ok, hsz, Sem.run_pure, h.len,
      Bool.false_eq_true, if_false, g1, hti, hby, g2, or_self, and_false, hb, false_or, hch, run_askRoom, hold, hnew, hzv, Bool.not_false, if_true, newRow, run_newObj, List.append_toArray]
    simp
    congr 2
    apply Array.toList_inj.1
    simp
theorem append_room {w : World} {st xt el ty : TypeId} {k bytes : Nat} {b o : Nat} {sLen sCap : Nat} {x : Value} {n : Nat} {old new : List Value} {arr : List Value} {t : TypeId}
    (h : AppArgs P w st xt el k bytes (some ⟨b, o, none⟩) sLen x n old new) (hc : sLen + n ≤ sCap) (hb : w.heap[b]? = some (.cells arr.toArray t (0, 0))) (hl : o + sLen * k + n * k ≤ arr.length) (h1 : ∀ x ∈ new, x.oneCell' = true) :
    (Builtin.append_ #[st, xt] ty #[.slice (some ⟨b, o, none⟩) sLen sCap, x]).run P w = .ok (.slice (some ⟨b, o, none⟩) (sLen + n) sCap) (w.setRow b (spl (o + sLen * k) new arr).toArray) := by
  obtain ⟨i, z, hi, hk, hby, hz, hzs⟩ := h.info
  obtain ⟨el', hxt⟩ := h.xt
  have hti : ∀ W : World, (typeInfo el).run P W = .ok i W := fun W => run_typeInfo W hi
  have hsz : ∀ W : World, (sizeOf el).run P W = .ok k W := fun W => by simp [sizeOf, hti W, hk]
  have hnew := h.newr w rfl
  have hst := store_run (P := P) (w := w) (b := b) (o := o + sLen * k) (vs := arr) (rest := []) (xs := new) (t := t) (by simpa using hb) (by simp [h.newl]; omega) h1
  simp only [List.append_nil] at hst
  simp only [Builtin.append_, List.getElem?_toArray, List.getElem?_cons_zero, List.getElem?_cons_succ, Sem.run_bind, run_underlying h.st, run_underlying hxt, Result.andThen_ok, hsz, Sem.run_pure, h.len,
    Bool.false_eq_true, if_false, hc, if_true, hnew, Bool.not_false, addr_add, List.toList_toArray, hst]
theorem append_none {w : World} {st xt el ty : TypeId} {k bytes : Nat} {base : Option Addr} {sLen sCap : Nat} {x : Value} {old : List Value}
    (h : AppArgs P w st xt el k bytes base sLen x 0 old []) (hc : sLen ≤ sCap) : (Builtin.append_ #[st, xt] ty #[.slice base sLen sCap, x]).run P w = .ok (.slice base sLen sCap) w := by
  obtain ⟨i, z, hi, hk, hby, hz, hzs⟩ := h.info
  obtain ⟨el', hxt⟩ := h.xt
  have hti : ∀ W : World, (typeInfo el).run P W = .ok i W := fun W => run_typeInfo W hi
  have hsz : ∀ W : World, (sizeOf el).run P W = .ok k W := fun W => by simp [sizeOf, hti W, hk]
  have hnew := h.newr w rfl
  cases base with
  | none =>
    simp only [Builtin.append_, List.getElem?_toArray, List.getElem?_cons_zero, List.getElem?_cons_succ, Sem.run_bind, run_underlying h.st, run_underlying hxt, Result.andThen_ok, hsz, Sem.run_pure, h.len,
      Bool.false_eq_true, if_false, Nat.add_zero, hc, if_true, hnew, Bool.not_false]
  | some a =>
    simp only [Builtin.append_, List.getElem?_toArray, List.getElem?_cons_zero, List.getElem?_cons_succ, Sem.run_bind, run_underlying h.st, run_underlying hxt, Result.andThen_ok, hsz, Sem.run_pure, h.len,
      Bool.false_eq_true, if_false, Nat.add_zero, hc, if_true, hnew, Bool.not_false, storeCells]
def lenSl : AV → Option Nat
  | .nilSlice => some 0
  | .slice _ _ n _ => some n
  | .opn _ n => some n
  | _ => none
/-- The first cells of a slice. -/
noncomputable def firstA (m : Nat) (v : AV) (s : St) : Option (List AV) :=
  match v with
  | .nilSlice => if m = 0 then some [] else none
  | .slice b o _ _ => (s.rd b).bind fun cs => if o + m ≤ cs.length then some ((cs.drop o).take m) else none
  | .opn b _ => (s.rd b).bind fun cs => if m ≤ cs.length then some (cs.take m) else none
  | _ => none
theorem lenSl_run {e : Env} {v : AV} {x : Value} {n : Nat} (h : lenSl v = some n) (hx : conc e v = some x) : Builtin.lenOf x = pure n ∧ ∃ a c, x = .slice a n c := by
  unfold lenSl at h
  split at h <;> simp only [reduceCtorEq, Option.some.injEq] at h <;> subst h <;> simp only [conc, Option.some.injEq, Option.map_eq_some_iff] at hx
  · subst hx; exact ⟨rfl, _, _, rfl⟩
  · obtain ⟨p, _, rfl⟩ := hx; exact ⟨rfl, _, _, rfl⟩
  · obtain ⟨p, _, rfl⟩ := hx; exact ⟨rfl, _, _, rfl⟩
theorem firstA_run {e : Env} {s : St} {w : World} (hs : Sim e s w) {v : AV} {x : Value} {n k : Nat} {cs : List AV} (h : firstA (n * k) v s = some cs) (hx : conc e v = some x) :
    ∃ xs, concL e cs = some xs ∧ cs.length = n * k ∧ ∀ W : World, W.heap = w.heap → (Builtin.firstCells k n x).run P W = .ok xs.toArray W := by
  unfold firstA at h
  split at h
  · split at h
    · rename_i hm
      simp only [Option.some.injEq] at h; subst h
      simp only [conc, Option.some.injEq] at hx; subst hx
      exact ⟨[], rfl, by simp [hm], fun W _ => rfl⟩
    · cases h
  · simp only [Option.bind_eq_some_iff] at h
    obtain ⟨ds, hg, h⟩ := h
    split at h
    · rename_i hle
      simp only [Option.some.injEq] at h; subst h
      obtain ⟨b, q, t, vs, rest, he, hb, hvs⟩ := rd_at hs hg
      simp only [conc, he, Option.map_some, Option.some.injEq] at hx
      subst hx
      have hl := concL_length hvs
      refine ⟨_, concL_take (concL_drop hvs _) _, by simp; omega, fun W hW => ?_⟩
      have hb' : W.heap[b]? = some (.cells (vs ++ rest).toArray t (0, 0)) := by rw [hW]; exact hb
      simp only [Builtin.firstCells]
      exact load_run hb' (by omega)
    · cases h
  · simp only [Option.bind_eq_some_iff] at h
    obtain ⟨ds, hg, h⟩ := h
    split at h
    · rename_i hle
      simp only [Option.some.injEq] at h; subst h
      obtain ⟨b, q, t, vs, rest, he, hb, hvs⟩ := rd_at hs hg
      simp only [conc, he, Option.map_some, Option.some.injEq] at hx
      subst hx
      have hl := concL_length hvs
      refine ⟨_, concL_take hvs _, by simp; omega, fun W hW => ?_⟩
      have hb' : W.heap[b]? = some (.cells (vs ++ rest).toArray t (0, 0)) := by rw [hW]; exact hb
      simp only [Builtin.firstCells]
      have := load_run (P := P) (o := 0) (n := n * k) hb' (by omega)
      simpa using this
    · cases h
  · cases h
end Go.Abs
/- append on abstract slices. -/
namespace Go.Abs
variable {P : Program}
theorem Goes.kill {e e' : Env} {s : St} {w w' : World} {blk : Blk} (n : Nat) (hn : n ≠ s.next) (h : Goes e s w e' (s.add blk) w') : Goes e s w e' (s.shift n blk) w' where
  le := h.le
  rng := h.rng
  own := fun b hb o => h.own b hb (by
    obtain ⟨m, x, q, hx, hr, hm⟩ := o
    simp only [St.shift, Tr.get_set] at hx
    refine ⟨m, x, q, ?_, hr, hm⟩
    simp only [St.add, Tr.get_set]
    split at hx
    · rename_i e0; rw [if_pos e0]; exact hx
    · rename_i e0; rw [if_neg e0]; split at hx
      · cases hx
      · exact hx)
  met := fun b hb o => h.met b hb (by
    obtain ⟨m, x, q, hx, hm⟩ := o
    simp only [St.shift, Tr.get_set] at hx
    refine ⟨m, x, q, ?_, hm⟩
    simp only [St.add, Tr.get_set]
    split at hx
    · rename_i e0; rw [if_pos e0]; exact hx
    · rename_i e0; rw [if_neg e0]; split at hx
      · cases hx
      · exact hx)
  frame := h.frame
  size := h.size
  os := h.os
  tape := h.tape
  output := h.output
  log := fun m hm => by
    simp only [St.shift, List.mem_cons, not_or] at hm ⊢
    rw [Tr.get_set, if_neg hm.1, Tr.get_set, if_neg hm.2.1]
  logs := fun m hm => List.mem_cons_of_mem _ (List.mem_cons_of_mem _ hm)
  next := h.next
theorem Sim.kill {e : Env} {s : St} {w : World} {blk : Blk} (n : Nat) (h : Sim e (s.add blk) w) : Sim e (s.shift n blk) w :=
  h.sub fun m x hx => by
    simp only [St.shift, St.add, Tr.get_set] at hx ⊢
    split at hx
    · rename_i e0; rw [if_pos e0]; exact hx
    · rename_i e0; rw [if_neg e0]; split at hx
      · cases hx
      · exact hx
noncomputable def appendA (P : Program) (st xt : TypeId) (a x : AV) (s : St) : Option (AV × St) :=
  match P.underlying st, P.underlying xt with
  | some (.slice el), some (.slice _) =>
    (P.info? el).bind fun i => (zeroA P el).bind fun z =>
    if (cellsA z).length = i.size ∧ i.bytes ≠ 0 ∧ i.size ≠ 0 then
    (lenSl x).bind fun n => (lenSl a).bind fun m => (firstA (n * i.size) x s).bind fun new => (firstA (m * i.size) a s).bind fun old =>
    if n = 0 then
      match a with
      | .nilSlice => some (.nilSlice, s)
      | .slice b o l c => if l ≤ c then some (.slice b o l c, s) else none
      | .opn b l => (s.get b).bind fun r => if r.2.1 = some i.size then some (.opn b l, s) else none
      | _ => none
    else if new.all oneA ∧ (m + n) * i.bytes ≤ 140737488355328 then
      match a with
      | .nilSlice => some (.opn s.next (m + n), s.add (.cells el (some i.size) (old ++ new)))
      | .slice b o l c =>
        if l + n ≤ c then (s.get b).bind fun r => if o + l * i.size + n * i.size ≤ r.2.2.length then some (.slice b o (l + n) c, s.put b (.cells r.1 r.2.1 (spl (o + l * i.size) new r.2.2))) else none
        else some (.opn s.next (m + n), s.add (.cells el (some i.size) (old ++ new)))
      | .opn b l => (s.get b).bind fun r => if r.2.1 = some i.size ∧ r.1 = el then some (.opn s.next (l + n), s.shift b (.cells el (some i.size) (old ++ new))) else none
      | _ => none
    else none
    else none
  | _, _ => none
theorem appendA_run {e : Env} {s s' : St} {w : World} (hs : Sim e s w) {st xt ty : TypeId} {a x v : AV} {A X : Value} (h : appendA P st xt a x s = some (v, s')) (hA : conc e a = some A) (hX : conc e x = some X)
    (hf : Free e s.next s'.next) : ∃ e' w', Sim e' s' w' ∧ Goes e s w e' s' w' ∧ ∃ V, conc e' v = some V ∧ (Builtin.append_ #[st, xt] ty #[A, X]).run P w = .ok V w' := by
  unfold appendA at h
  split at h
  case h_2 => cases h
  rename_i el el' hst hxt
  simp only [Option.bind_eq_some_iff] at h
  obtain ⟨i, hi, z, hz, h⟩ := h
  split at h
  case isFalse => cases h
  rename_i hc
  obtain ⟨hzl, hby, hsz⟩ := hc
  simp only [Option.bind_eq_some_iff] at h
  obtain ⟨n, hn, m, hm, new, hnew, old, hold, h⟩ := h
  obtain ⟨hlen, _, _, _⟩ := lenSl_run hn hX
  obtain ⟨_, base, cap, rfl⟩ := lenSl_run hm hA
  obtain ⟨news, hnews, hnewl, hnewr⟩ := firstA_run (P := P) hs hnew hX
  obtain ⟨olds, holds, holdl, holdr⟩ := firstA_run (P := P) hs hold hA
  have l1 := concL_length hnews
  have l2 := concL_length holds
  have harg : AppArgs P w st xt el i.size i.bytes base m X n olds news := by
    refine ⟨hst, ⟨el', hxt⟩, ?_, hlen, hnewr, ?_, by omega, by omega⟩
    · simp only [zeroA, hi, Option.bind_some, Option.bind_eq_some_iff] at hz
      obtain ⟨zv, hzv, hzo⟩ := hz
      obtain ⟨zs, hzs1, hzs2⟩ := cellsA_conc (conc_ofVal e hzo)
      have := concL_length hzs1
      exact ⟨i, zv, hi, rfl, rfl, hzv, by rw [hzs2]; simp; omega⟩
    · intro W hW
      have := holdr W hW
      cases base <;> exact this
  split at h
  · rename_i hn0
    subst hn0
    have hnil : news = [] := by have : news.length = 0 := by omega
                                exact List.eq_nil_of_length_eq_zero this
    subst hnil
    have key : m ≤ cap → ∃ e' w', Sim e' s w' ∧ Goes e s w e' s w' ∧ ∃ V, conc e' a = some V ∧ (Builtin.append_ #[st, xt] ty #[.slice base m cap, X]).run P w = .ok V w' := fun hcap =>
      ⟨e, w, hs, Goes.refl .., _, hA, append_none harg hcap⟩
    split at h
    · simp only [Option.some.injEq, Prod.mk.injEq] at h; obtain ⟨rfl, rfl⟩ := h
      simp only [conc, Option.some.injEq, Value.slice.injEq] at hA; obtain ⟨_, h1, h2⟩ := hA
      exact key (by omega)
    · split at h <;> simp only [reduceCtorEq, Option.some.injEq, Prod.mk.injEq] at h
      obtain ⟨rfl, rfl⟩ := h
      rename_i hlc
      simp only [conc, Option.map_eq_some_iff, Value.slice.injEq] at hA; obtain ⟨_, _, _, h1, h2⟩ := hA
      exact key (by omega)
    · rename_i b l
      simp only [Option.bind_eq_some_iff] at h
      obtain ⟨⟨t', k', cs⟩, hg, h⟩ := h
      split at h <;> simp only [reduceCtorEq, Option.some.injEq, Prod.mk.injEq] at h
      obtain ⟨rfl, rfl⟩ := h
      rename_i hk
      simp only at hk
      obtain ⟨b', q, ob, he, hb, hr⟩ := hs.at_ _ _ (St.get_eq hg)
      obtain ⟨vs, rest, hvs, rfl, _, hr2⟩ := cells_at hr
      have hql := hr2 _ hk
      simp only [firstA, rd_of_get hg, Option.bind_some] at hold
      split at hold
      · rename_i hle
        try simp only at hle
        have l3 := concL_length hvs
        simp only [conc, he, Option.map_some, Option.some.injEq, Value.slice.injEq] at hA
        obtain ⟨_, h1, h2⟩ := hA
        have hmq : m * i.size ≤ q * i.size := by
          rw [List.length_append] at hql; omega
        exact key (by rw [← h2]; exact Nat.le_of_mul_le_mul_right hmq (by omega))
      · cases hold
    · cases h
  · rename_i hn0
    split at h
    case isFalse => cases h
    rename_i hone
    obtain ⟨hone, hmax⟩ := hone
    have grow : cap < m + n → e s.next = none → ∃ e' w', Sim e' (s.add (.cells el (some i.size) (old ++ new))) w' ∧ Goes e s w e' (s.add (.cells el (some i.size) (old ++ new))) w' ∧
        ∃ V, conc e' (.opn s.next (m + n)) = some V ∧ (Builtin.append_ #[st, xt] ty #[.slice base m cap, X]).run P w = .ok V w' := by
      intro hcap hfree
      obtain ⟨newCap, rest, hl, hrun⟩ := append_grow (ty := ty) harg hcap hby hmax
      have := alloc_sim hs hfree newCap (t := el) (k := some i.size) (rest := rest) (concL_append holds hnews) (by simp) (fun m' hm' => by cases hm'; exact hl) { w with drawn := w.drawn + 1 } ⟨rfl, rfl, rfl, rfl⟩
      exact ⟨_, _, this.1, this.2, _, by simp only [conc, Env.upd_self, Option.map_some], hrun⟩
    split at h
    · simp only [Option.some.injEq, Prod.mk.injEq] at h; obtain ⟨rfl, rfl⟩ := h
      simp only [conc, Option.some.injEq, Value.slice.injEq] at hA; obtain ⟨_, h1, h2⟩ := hA
      exact grow (by omega) (hf _ (Nat.le_refl _) (Nat.lt_succ_self _))
    · rename_i b o l c
      split at h
      · rename_i hroom
        simp only [Option.bind_eq_some_iff] at h
        obtain ⟨⟨t', k', cs⟩, hg, h⟩ := h
        split at h <;> simp only [reduceCtorEq, Option.some.injEq, Prod.mk.injEq] at h
        obtain ⟨rfl, rfl⟩ := h
        rename_i hle
        simp only at hle
        obtain ⟨b', q, ob, he, hb, hr⟩ := hs.at_ _ _ (St.get_eq hg)
        obtain ⟨vs, rest, hvs, rfl, hr1, hr2⟩ := cells_at hr
        have l3 := concL_length hvs
        simp only [conc, he, Option.map_some, Option.some.injEq, Value.slice.injEq] at hA
        obtain ⟨h0, h1, h2⟩ := hA
        subst h0 h1 h2
        have hrun := append_room (ty := ty) harg hroom hb (by simp; omega) (oneA_list hone hnews)
        have hsp : spl (o + l * i.size) news (vs ++ rest) = spl (o + l * i.size) news vs ++ rest := spl_app (by omega)
        rw [hsp] at hrun
        have hput := hs.put (blk' := .cells t' k' (spl (o + l * i.size) new cs)) (w' := w.setRow b' (spl (o + l * i.size) news vs ++ rest).toArray) (St.get_eq hg) trivial he (by simp) (setRow_heap _ _ _ _ _ _ hb) (fun j hj => setRow_other _ _ _ _ hj)
          (cells_mk (spl_conc _ hnews hvs) hr1 (fun m' hm' => by rw [← hr2 m' hm']; simp [spl_length (show o + l * i.size + news.length ≤ vs.length by omega)])) rfl rfl rfl
        exact ⟨_, _, hput.1, hput.2, _, by simp only [conc, he, Option.map_some], hrun⟩
      · rename_i hroom
        simp only [Option.some.injEq, Prod.mk.injEq] at h; obtain ⟨rfl, rfl⟩ := h
        simp only [conc, Option.map_eq_some_iff, Value.slice.injEq] at hA; obtain ⟨_, _, _, h1, h2⟩ := hA
        exact grow (by omega) (hf _ (Nat.le_refl _) (Nat.lt_succ_self _))
    · rename_i b l
      simp only [Option.bind_eq_some_iff] at h
      obtain ⟨⟨t', k', cs⟩, hg, h⟩ := h
      split at h <;> simp only [reduceCtorEq, Option.some.injEq, Prod.mk.injEq] at h
      obtain ⟨rfl, rfl⟩ := h
      rename_i hk
      simp only at hk
      obtain ⟨hk, rfl⟩ := hk
      have hfree : e s.next = none := hf _ (Nat.le_refl _) (Nat.lt_succ_self _)
      obtain ⟨b', q, ob, he, hb, hr⟩ := hs.at_ _ _ (St.get_eq hg)
      have hbn : b ≠ s.next := fun e0 => by rw [e0, hfree] at he; cases he
      obtain ⟨vs, rest, hvs, rfl, hr1, hr2⟩ := cells_at hr
      have hql := hr2 _ hk
      have l3 := concL_length hvs
      simp only [firstA, rd_of_get hg, Option.bind_some] at hold
      split at hold
      case isFalse => cases hold
      rename_i hle
      try simp only at hle
      simp only [Option.some.injEq] at hold
      have hlm : m = l := by simp only [lenSl, Option.some.injEq] at hm; exact hm.symm
      subst hlm
      simp only [conc, he, Option.map_some, Option.some.injEq, Value.slice.injEq] at hA
      obtain ⟨h0, _, h2⟩ := hA
      subst h0 h2
      by_cases hroom : m + n ≤ q
      · have hfull : 0 + m * i.size + n * i.size ≤ (vs ++ rest).length := by
          rw [hql, Nat.zero_add, ← Nat.add_mul]; exact Nat.mul_le_mul_right _ hroom
        have hrun := append_room (ty := ty) harg hroom hb hfull (oneA_list hone hnews)
        have hov : olds = vs.take (m * i.size) := by
          have := concL_take hvs (m * i.size)
          rw [hold] at this; exact Option.some.inj (holds.symm.trans this)
        have hsp : spl (0 + m * i.size) news (vs ++ rest) = (olds ++ news) ++ (vs ++ rest).drop (m * i.size + news.length) := by
          unfold spl
          rw [Nat.zero_add, List.take_append_of_le_length (by omega), ← hov]
        rw [hsp] at hrun
        have hsh := hs.shift (blk' := .cells t' (some i.size) (old ++ new)) (w' := w.setRow b' ((olds ++ news) ++ (vs ++ rest).drop (m * i.size + news.length)).toArray) (St.get_eq hg) trivial he hfree (by simp) (setRow_heap _ _ _ _ _ _ hb) (fun j hj => setRow_other _ _ _ _ hj)
          (cells_mk (concL_append holds hnews) (by simp) (fun m' hm' => by cases hm'; rw [← hql]; simp only [List.length_append, List.length_drop] at hfull ⊢; omega)) rfl rfl rfl
        exact ⟨_, _, hsh.1, hsh.2, _, by simp only [conc, Env.upd_self, Option.map_some], hrun⟩
      · obtain ⟨e', w', g1, g2, V, g3, g4⟩ := grow (by omega) hfree
        exact ⟨e', w', g1.kill b, g2.kill b hbn, V, g3, g4⟩
    · cases h
end Go.Abs
/- Maps. -/
namespace Go.Abs
variable (P : Program)
def checkF (f : TypeId → AV → Option Unit) (cs : List AV) : List Field → Option Unit
  | [] => some ()
  | g :: gs => if g.name ≠ "_" then (partA P g.type cs g.offset).bind fun a => (f g.type a).bind fun _ => checkF f cs gs else checkF f cs gs
def checkV : Nat → TypeId → AV → Option Unit
  | 0, _, _ => none
  | d + 1, t, v =>
    match P.underlying t, v with
    | some (.struct fs), .agg cs => checkF P (checkV d) cs fs.toList
    | some .bool, .bool _ | some (.int _), .int _ _ | some .string, .str _ => some ()
    | _, _ => none
def findA (t : TypeId) (k : AV) : List (AV × AV × Nat) → Option (Option AV)
  | [] => some none
  | (k', v, _) :: es => (eqV P 10000 t k k').bind fun r => if r then some (some v) else findA t k es
variable {P}
theorem checkF_run {e : Env} {f : TypeId → AV → Option Unit} {em : Bool} {d : Nat} {w : World} {cs : List AV} {us : List Value}
    (hf : ∀ t a x, f t a = some () → conc e a = some x → (Instr.checkKey em d t x).run P w = .ok () w) (hx : concL e cs = some us) : ∀ (fs : List Field), checkF P f cs fs = some () →
    (forIn fs PUnit.unit fun (g : Field) (_ : PUnit) => (if g.name ≠ "_" then (do let x ← part g.type us.toArray g.offset; Instr.checkKey em d g.type x; pure (ForInStep.yield PUnit.unit)) else pure (ForInStep.yield PUnit.unit) : Sem (ForInStep PUnit))).run P w = .ok PUnit.unit w
  | [], _ => by simp
  | g :: gs, h => by
    unfold checkF at h
    rw [List.forIn_cons]
    split at h
    · rename_i hn
      simp only [Option.bind_eq_some_iff] at h
      obtain ⟨a, ha, u, hu, hr⟩ := h
      obtain ⟨x, hx', hxr⟩ := partA_run P ha hx w
      have := hf _ _ _ hu hx'
      simp only [Sem.run_bind, if_pos hn, hxr, this, Result.andThen_ok, Sem.run_pure]
      exact checkF_run hf hx gs hr
    · rename_i hn
      simp only [Sem.run_bind, if_neg hn, Result.andThen_ok, Sem.run_pure]
      exact checkF_run hf hx gs h
theorem checkV_run {e : Env} (em : Bool) (w : World) : ∀ (d : Nat) (t : TypeId) (a : AV) (x : Value), checkV P d t a = some () → conc e a = some x → (Instr.checkKey em d t x).run P w = .ok () w
  | 0, _, _, _, h, _ => by cases h
  | d + 1, t, a, x, h, ha => by
    unfold checkV at h
    split at h
    case h_1 fs cs hu =>
      simp only [conc, Option.map_eq_some_iff] at ha
      obtain ⟨us, hus, rfl⟩ := ha
      have := checkF_run (P := P) (em := em) (d := d) (w := w) (fun t a x h1 h2 => checkV_run em w d t a x h1 h2) hus _ h
      rw [Instr.checkKey]
      simp only [Sem.run_bind, run_underlying hu, Result.andThen_ok]
      rw [← Array.forIn_toList]
      rw [this]; simp
    all_goals (try (cases h; done))
    all_goals (rename_i hu)
    all_goals (simp only [conc, Option.some.injEq] at ha; subst ha; rw [Instr.checkKey]; simp [run_underlying hu])
theorem sameNow_eq {t : TypeId} {d : TypeDesc} (hu : P.underlying t = some d) {x y : Value} {b : Bool} (h : Instr.sameNow d x y = some b) (w : World) : (Op.equal t x y).run P w = .ok b w := by
  suffices hk : ∀ n, (Op.equalIn (n + 1) t x y).run P w = .ok b w from hk 9999
  intro n
  unfold Instr.sameNow at h
  split at h
  · split at h
    · rename_i hk; subst hk; cases h; simp [Op.equalIn, run_underlying hu]
    · cases h
  · cases h; simp [Op.equalIn, run_underlying hu]
  · cases h; simp [Op.equalIn, run_underlying hu]
  · cases h
theorem findNow_eq {t : TypeId} {d : TypeDesc} (hu : P.underlying t = some d) {x : Value} (w : World) : ∀ {ms : List MapEntry} {i : Nat} {r : Option (Nat × Value)}, Instr.findNow d x ms i = some r → (Instr.findAsking t x ms i).run P w = .ok r w
  | [], i, r, h => by simp [Instr.findNow] at h; subst h; simp [Instr.findAsking]
  | m :: ms, i, r, h => by
    simp only [Instr.findNow] at h
    split at h
    · rename_i hs; cases h; simp only [Instr.findAsking, Sem.run_bind, sameNow_eq hu hs w, Result.andThen_ok, if_true, Sem.run_pure]
    · rename_i hs; simp only [Instr.findAsking, Sem.run_bind, sameNow_eq hu hs w, Result.andThen_ok, Bool.false_eq_true, if_false, findNow_eq hu w h]
    · cases h
theorem findKey_eq {t : TypeId} {d : TypeDesc} (hu : P.underlying t = some d) (x : Value) (ms : List MapEntry) (w : World) : (Instr.findKey t x ms).run P w = (Instr.findAsking t x ms).run P w := by
  unfold Instr.findKey
  simp only [Sem.run_bind, run_underlying hu, Result.andThen_ok]
  cases hn : Instr.findNow d x ms 0 with
  | none => rfl
  | some r => simp only [Sem.run_pure, findNow_eq hu w hn]
def FoundIs (e : Env) : Option AV → Option (Nat × Value) → Prop
  | none, none => True
  | some v, some q => conc e v = some q.2
  | _, _ => False
theorem findA_run {e : Env} {t : TypeId} {k : AV} {x : Value} (hk : conc e k = some x) (w : World) : ∀ {es : List (AV × AV × Nat)} {ms : List MapEntry} {r : Option AV} (i : Nat), findA P t k es = some r → concM e es = some ms → ∃ q, (Instr.findAsking t x ms i).run P w = .ok q w ∧ FoundIs e r q
  | [], ms, r, i, h, hm => by
    simp [concM] at hm; subst hm; simp [findA] at h; subst h
    exact ⟨none, by simp [Instr.findAsking], trivial⟩
  | (k', v, b) :: es, ms, r, i, h, hm => by
    simp only [concM, Option.bind_eq_some_iff, Option.map_eq_some_iff] at hm
    obtain ⟨y, hy, z, hz, ms1, hms, rfl⟩ := hm
    simp only [findA, Option.bind_eq_some_iff] at h
    obtain ⟨q, hq, h⟩ := h
    have he : (Op.equal t x y).run P w = .ok q w := eqV_run P e w 10000 t k k' q x y hq hk hy
    cases q with
    | true =>
      simp only [if_true, Option.some.injEq] at h; subst h
      exact ⟨some (i, z), by simp only [Instr.findAsking, Sem.run_bind, he, Result.andThen_ok, if_true, Sem.run_pure], hz⟩
    | false =>
      simp only [Bool.false_eq_true, if_false] at h
      obtain ⟨q, h1, h2⟩ := findA_run hk w (i + 1) h hms
      exact ⟨q, by simp only [Instr.findAsking, Sem.run_bind, he, Result.andThen_ok, Bool.false_eq_true, if_false, h1], h2⟩
noncomputable def entsA (x : AV) (s : St) : Option (List (AV × AV × Nat)) :=
  match x with
  | .nilMap => some []
  | .map n => match s.heap.get n with | some (.map es _) => some es | _ => none
  | _ => none
noncomputable def lookupA (P : Program) (xt : TypeId) (x k : AV) (ok : Bool) (s : St) : Option AV :=
  match P.underlying xt with
  | some (.map kt el) => (entsA x s).bind fun es => (checkV P 10000 kt k).bind fun _ => (findA P kt k es).bind fun r => match r with
    | some v => some (if ok then .tup [v, .bool true] else v)
    | none => (zeroA P el).map fun z => if ok then .tup [z, .bool false] else z
  | _ => none
theorem lookupA_run {e : Env} {s : St} {w : World} (hs : Sim e s w) {xt : TypeId} {x k v : AV} {ok : Bool} (h : lookupA P xt x k ok s = some v) {a b : Value} (ha : conc e x = some a) (hb : conc e k = some b) :
    ∃ y, conc e v = some y ∧ (Instr.lookup xt a b ok).run P w = .ok y w := by
  unfold lookupA at h
  split at h
  case h_2 => cases h
  rename_i kt el hu
  simp only [Option.bind_eq_some_iff] at h
  obtain ⟨es, hes, u, hc, r, hf, h⟩ := h
  have hck := fun em => checkV_run (P := P) em w 10000 kt k b hc hb
  have hkt : ∃ d, P.underlying kt = some d := by
    unfold checkV at hc; split at hc <;> first | exact ⟨_, by assumption⟩ | cases hc
  obtain ⟨d, hd⟩ := hkt
  have hents : ∃ ms, concM e es = some ms ∧ ((a = .map none ∧ ms = []) ∨ ∃ p c, a = .map (some p) ∧ (getObj p).run P w = .ok (.map ms.toArray c) w) := by
    unfold entsA at hes
    split at hes
    · cases hes; simp only [conc, Option.some.injEq] at ha; exact ⟨[], rfl, .inl ⟨ha.symm, rfl⟩⟩
    · rename_i n
      split at hes
      · rename_i es' c hg
        cases hes
        obtain ⟨p, q, ob, he, hp, ms, hm, rfl⟩ := hs.at_ _ _ hg
        simp only [conc, he, Option.map_some, Option.some.injEq] at ha
        exact ⟨ms, hm, .inr ⟨p, c, ha.symm, by simp [getObj, Sem.run, hp]⟩⟩
      · cases hes
    · cases hes
  obtain ⟨ms, hms, hcase⟩ := hents
  obtain ⟨q, hq, hfound⟩ := findA_run hb w 0 hf hms
  have hkey : (Instr.findKey kt b ms).run P w = .ok q w := (findKey_eq hd b ms w).trans hq
  have fin : ∃ y, conc e v = some y ∧ ∀ m : Sem Value, (m.run P w = ((pure (q, 0) : Sem (Option (Nat × Value) × Nat)).run P w).andThen fun p w' => ((match p.1 with | some (_, v) => (pure (v, true) : Sem (Value × Bool)) | none => do pure (← zeroValue el, false)).run P w').andThen (fun p w' => (pure (if ok then Value.tuple #[p.1, .bool p.2] else p.1) : Sem Value).run P w')) → m.run P w = .ok y w := by
    cases r with
    | some v' =>
      cases q with
      | none => cases hfound
      | some q =>
        obtain ⟨i, z⟩ := q
        have hz : conc e v' = some z := hfound
        cases h
        cases ok
        · exact ⟨z, hz, fun m hm => by rw [hm]; simp⟩
        · exact ⟨.tuple #[z, .bool true], by simp [conc, concL, hz], fun m hm => by rw [hm]; simp⟩
    | none =>
      cases q with
      | some q => cases hfound
      | none =>
        simp only [Option.map_eq_some_iff] at h
        obtain ⟨z, hz, rfl⟩ := h
        obtain ⟨zx, hz1, hz2⟩ := zeroA_run P hz e w
        cases ok
        · exact ⟨zx, hz1, fun m hm => by rw [hm]; simp [hz2]⟩
        · exact ⟨.tuple #[zx, .bool false], by simp [conc, concL, hz1], fun m hm => by rw [hm]; simp [hz2]⟩
  obtain ⟨y, hy, hrun⟩ := fin
  refine ⟨y, hy, hrun _ ?_⟩
  unfold Instr.lookup
  rcases hcase with ⟨rfl, rfl⟩ | ⟨p, c, rfl, hg⟩
  · simp only [Sem.run_bind, run_underlying hu, Result.andThen_ok, Sem.run_pure, hck]
    rw [hkey]; cases q <;> simp [Result.andThen] <;> (try (split <;> rfl))
  · simp only [Sem.run_bind, run_underlying hu, Result.andThen_ok, Sem.run_pure, hck, hg]
    rw [hkey]; cases q <;> simp [Result.andThen] <;> (try (split <;> rfl))
noncomputable def mapUpdateA (P : Program) (mt : TypeId) (m k v : AV) (s : St) : Option St :=
  match P.underlying mt, m with
  | some (.map kt _), .map n => match s.heap.get n with
    | some (.map es c) => (checkV P 10000 kt k).bind fun _ => (findA P kt k es).bind fun r => match r with
      | none => some (s.put n (.map (es ++ [(k, v, c)]) (c + 1)))
      | some _ => none
    | _ => none
  | _, _ => none
theorem concM_snoc {e : Env} {k v : AV} {x y : Value} {b : Nat} (hk : conc e k = some x) (hv : conc e v = some y) : ∀ {es : List (AV × AV × Nat)} {ms : List MapEntry}, concM e es = some ms → concM e (es ++ [(k, v, b)]) = some (ms ++ [⟨x, y, b⟩])
  | [], ms, h => by simp [concM] at h; subst h; simp [concM, hk, hv]
  | (k', v', b') :: es, ms, h => by
    simp only [concM, Option.bind_eq_some_iff, Option.map_eq_some_iff] at h
    obtain ⟨p, hp, q, hq, ms1, hms, rfl⟩ := h
    simp only [List.cons_append, concM, hp, hq, Option.bind_some, concM_snoc hk hv hms, Option.map_some]
theorem mapUpdateA_run {e : Env} {s s' : St} {w : World} (hs : Sim e s w) {mt : TypeId} {m k v : AV} (h : mapUpdateA P mt m k v s = some s') {a b c : Value} (ha : conc e m = some a) (hb : conc e k = some b) (hcv : conc e v = some c) :
    ∃ w', Sim e s' w' ∧ Goes e s w e s' w' ∧ (Instr.mapUpdate mt a b c).run P w = .ok () w' := by
  unfold mapUpdateA at h
  split at h
  case h_2 => cases h
  rename_i kt el n hu
  split at h
  case h_2 => cases h
  rename_i es cl hg
  simp only [Option.bind_eq_some_iff] at h
  obtain ⟨u, hc, r, hf, h⟩ := h
  split at h
  case h_2 => cases h
  cases h
  have hck := checkV_run (P := P) false w 10000 kt k b hc hb
  have hkt : ∃ d, P.underlying kt = some d := by
    unfold checkV at hc; split at hc <;> first | exact ⟨_, by assumption⟩ | cases hc
  obtain ⟨d, hd⟩ := hkt
  obtain ⟨p, q, ob, he, hp, ms, hm, rfl⟩ := hs.at_ _ _ hg
  simp only [conc, he, Option.map_some, Option.some.injEq] at ha
  obtain ⟨q1, hq, hfound⟩ := findA_run hb w 0 hf hm
  have hq1 : q1 = none := by cases q1 with | none => rfl | some _ => cases hfound
  subst hq1
  have hkey : (Instr.findKey kt b ms).run P w = .ok none w := (findKey_eq hd b ms w).trans hq
  have hlt : p < w.heap.size := (Array.getElem?_eq_some_iff.1 hp).1
  obtain ⟨ob', hob⟩ : ∃ o : Obj, o = .map (ms ++ [(⟨b, c, cl⟩ : MapEntry)]).toArray (cl + 1) := ⟨_, rfl⟩
  let w' : World := { w with heap := w.heap.setIfInBounds p ob' }
  have hput := hs.put (blk' := .map (es ++ [(k, v, cl)]) (cl + 1)) (ob := ob') (w' := w') hg trivial he (by simp [w']) (by simp [w', hlt]) (fun k hk => by simp [w', Array.getElem?_setIfInBounds_ne (Ne.symm hk)]) ⟨_, concM_snoc hb hcv hm, hob⟩ rfl rfl rfl
  refine ⟨w', hput.1, hput.2, ?_⟩
  have hgo : (getObj p).run P w = .ok (.map ms.toArray cl) w := by simp [getObj, Sem.run, hp]
  have hset : (setObj p ob').run P w = .ok () w' := by simp [setObj, Sem.run, hp, w']
  subst ha
  unfold Instr.mapUpdate
  simp only [Sem.run_bind, run_underlying hu, Result.andThen_ok, hgo, hck]
  rw [hkey]
  simp only [Result.andThen_ok]
  rw [show (ms.toArray.push { key := b, val := c, born := cl } : Array MapEntry) = (ms ++ [(⟨b, c, cl⟩ : MapEntry)]).toArray by simp, ← hob]
  exact hset
end Go.Abs
/- Operations on memory: all but calls. -/
namespace Go.Abs
variable {P : Program}
def repA (z : List AV) (n : Nat) : List AV := (List.range n).map fun i => z.getD (i % z.length) (.tup [])
theorem repA_conc {e : Env} {z : List AV} {zs : List Value} (h : concL e z = some zs) {n : Nat} (hn : n = 0 ∨ z.length ≠ 0) :
    ∃ xs, concL e (repA z n) = some xs ∧ (Array.range n).map (fun i => zs.toArray[i % zs.toArray.size]!) = xs.toArray ∧ xs.length = n := by
  have hl := concL_length h
  have key : ∀ l : List Nat, (l = [] ∨ z.length ≠ 0) → concL e (l.map fun i => z.getD (i % z.length) (.tup [])) = some (l.map fun i => zs.toArray[i % zs.toArray.size]!) := by
    intro l hz
    induction l with
    | nil => rfl
    | cons a l ih =>
      have hz' : z.length ≠ 0 := by rcases hz with h0 | h0; · cases h0
                                    · exact h0
      have hlt : a % z.length < z.length := Nat.mod_lt _ (by omega)
      obtain ⟨x, hx, hc⟩ := concL_get h (a % z.length) z[a % z.length] (by simp [hlt])
      simp only [List.map_cons, concL]
      rw [ih (.inr hz')]
      have h1 : z.getD (a % z.length) (.tup []) = z[a % z.length] := by simp [List.getD_eq_getElem?_getD, hlt]
      have h2 : zs.toArray[a % zs.toArray.size]! = x := by
        simp only [List.size_toArray, hl]
        rw [List.getElem!_toArray, getElem!_def, hx]
      rw [h1, hc, h2]; rfl
  refine ⟨_, key (List.range n) ?_, ?_, by simp⟩
  · rcases hn with rfl | h0
    · exact .inl rfl
    · exact .inr h0
  · apply Array.toList_inj.1; simp
noncomputable def newA (t : TypeId) (cs : List AV) (s : St) : Option (Option AV × St) := some (some (.ptr s.next 0), s.add (.cells t none cs))
noncomputable def buildSliceA (P : Program) (t : TypeId) (len : Nat) (ps : List (Nat × AV)) (s : St) : Option (Option AV × St) :=
  match P.underlying t with
  | some (.slice el) => (szA P el).bind fun k => if len * k ≤ 16777216 then
      (if len * k = 0 then some [] else (zeroA P el).map cellsA).bind fun z => if len * k = 0 ∨ z.length ≠ 0 then
      (fillA (fun i => some (i * k, k)) (repA z (len * k)) ps).bind fun cs => some (some (.slice s.next 0 len len), s.add (.cells el none cs)) else none else none
  | _ => none
noncomputable def makeSliceA (P : Program) (t : TypeId) (l c : AV) (s : St) : Option (Option AV × St) :=
  match P.underlying t, l, c with
  | some (.slice el), .int _ l, .int _ c => (P.info? el).bind fun i => if 0 ≤ l ∧ l ≤ c ∧ c < 1048576 ∧ i.bytes ≤ 1048576 then
      (if c.toNat * i.size = 0 then some [] else (zeroA P el).map cellsA).bind fun z => if c.toNat * i.size = 0 ∨ z.length ≠ 0 then
      some (some (.slice s.next 0 l.toNat c.toNat), s.add (.cells el none (repA z (c.toNat * i.size)))) else none else none
  | _, _, _ => none
/-- A slice of a row of unknown capacity. -/
noncomputable def sliceOpnA (P : Program) (t : TypeId) (x : AV) (lo hi mx : Option AV) (s : St) : Option AV :=
  match P.underlying t, x with
  | some (.slice el), .opn b len => (szA P el).bind fun k => (s.get b).bind fun r => if k ≠ 0 ∧ r.2.1 = some k then
      (match lo with | some (.int _ 0) => some () | none => some () | _ => none).bind fun _ =>
      (match hi, mx with
       | none, none => some (.opn b len)
       | some (.int _ h), none => if 0 ≤ h ∧ h.toNat * k ≤ r.2.2.length then some (.opn b h.toNat) else none
       | some (.int _ h), some (.int _ m) => if 0 ≤ h ∧ h ≤ m ∧ m.toNat * k ≤ r.2.2.length then some (.slice b 0 h.toNat m.toNat) else none
       | _, _ => none) else none
  | _, _ => none
noncomputable def heapOp (P : Program) (o : Oper) (α : Operand → Option AV) (s : St) : Option (Option AV × St) :=
  match o.op with
  | .alloc t => (zeroA P t).bind fun z => newA t (cellsA z) s
  | .box t x => (α x).bind fun v => newA t (cellsA v) s
  | .buildSlice t n ps => (argP α ps.toList).bind fun qs => buildSliceA P t n qs s
  | .load t x => (α x).bind fun a => (loadA P t a s).map fun v => (some v, s)
  | .store t x y => (α x).bind fun a => (α y).bind fun v => (storeA P t a v s).map fun s' => (none, s')
  | .makeSlice t l c => (α l).bind fun a => (α c).bind fun b => makeSliceA P t a b s
  | .slice t x lo hi mx => (α x).bind fun a => (optArg α lo).bind fun l => (optArg α hi).bind fun h => (optArg α mx).bind fun m => (sliceOpnA P t a l h m s).map fun v => (some v, s)
  | .call { callee := .builtin .append, args, argTypes } => (argL α args.toList).bind fun vs => match vs, argTypes.toList with
    | [a, x], [st, xt] => (appendA P st xt a x s).map fun r => (some r.1, r.2)
    | _, _ => none
  | .range t x => (α x).bind fun a => match P.underlying t, a with | some .string, .str b => some (some (.ptr s.next 0), s.add (.iter b 0)) | _, _ => none
  | .next x true => (α x).bind fun a => match a with
    | .ptr n 0 => match s.heap.get n with
      | some (.iter b pos) => if pos < b.size then some (some (.tup [.bool true, .int .i64 pos, .int .i32 (Utf8.decode b pos).1]), s.put n (.iter b (pos + (Utf8.decode b pos).2))) else some (some (.tup [.bool false]), s)
      | _ => none
    | _ => none
  | .makeMap _ none => some (some (.map s.next), s.add (.map [] 0))
  | .lookup t x k ok => (α x).bind fun a => (α k).bind fun b => (lookupA P t a b ok s).map fun v => (some v, s)
  | .mapUpdate t m k v => (α m).bind fun a => (α k).bind fun b => (α v).bind fun c => (mapUpdateA P t a b c s).map fun s' => (none, s')
  | .call { callee := .builtin .len, args, argTypes } => (argL α args.toList).bind fun vs => match vs, argTypes[0]? with
    | [.map n], some t => match P.underlying t, s.heap.get n with
      | some (.map _ _), some (.map es _) => some (some (.int .i64 es.length), s)
      | _, _ => none
    | _, _ => none
  | _ => none
end Go.Abs

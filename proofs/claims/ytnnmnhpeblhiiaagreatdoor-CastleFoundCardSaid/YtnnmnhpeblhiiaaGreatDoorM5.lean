/- A part of the proof: a run of the program on abstract values, shown to be a run of the machine. -/
import Derived.Test.YtnnmnhpeblhiiaaGreatDoorM4
import Derived.Lib.Bytealg
import Derived.Laws.Externs
set_option linter.unusedVariables false
set_option linter.unusedSimpArgs false
/- Operations on memory: their runs. -/
namespace Go.Abs
variable {P : Program}
/-- What an operation on memory leaves. -/
def HR (e : Env) (s : St) (w : World) (r : Option AV × St) (res : Result Next) : Prop :=
  ∃ e' w', Sim e' r.2 w' ∧ Goes e s w e' r.2 w' ∧ match r.1 with
    | some v => ∃ x, conc e' v = some x ∧ res = .ok (.value x) w'
    | none => res = .ok .skip w'
theorem HR.same {e : Env} {s : St} {w : World} (hs : Sim e s w) {v : AV} {x : Value} (h : conc e v = some x) {res : Result Next} (hr : res = .ok (.value x) w) : HR e s w (some v, s) res :=
  ⟨e, w, hs, Goes.refl .., x, h, hr⟩
theorem newA_HR {e : Env} {s : St} {w : World} (hs : Sim e s w) (hf : e s.next = none) {t : TypeId} {cs : List AV} {xs : List Value} (h : concL e cs = some xs) (v : AV) (x : Nat → Value)
    (hv : ∀ e' : Env, e' s.next = some (w.heap.size, 0) → conc e' v = some (x w.heap.size)) {res : Result Next} (hr : res = .ok (.value (x w.heap.size)) { w with heap := w.heap.push (.cells xs.toArray t) }) :
    HR e s w (some v, s.add (.cells t none cs)) res := by
  have := alloc_sim hs hf 0 (t := t) (k := none) (rest := []) h (fun _ => rfl) (by simp) w ⟨rfl, rfl, rfl, rfl⟩
  simp only [List.append_nil] at this
  exact ⟨_, _, this.1, this.2, _, hv _ (Env.upd_self ..), hr⟩
theorem bound_int {k : IntKind} {i : Int} {y : Nat} (h0 : 0 ≤ i) (h1 : i ≤ y) (c : BoundsCode) (w : World) : (Instr.sliceBound (.int k i) y c).run P w = .ok i.toNat w := by
  simp [Instr.sliceBound, asIntOf, h0, h1]
theorem sliceOpnA_run {e : Env} {s : St} {w : World} (hs : Sim e s w) {t : TypeId} {a v : AV} {x : Value} {lo hi mx : Option AV} {lo' hi' mx' : Option Value} (h : sliceOpnA P t a lo hi mx s = some v) (hx : conc e a = some x)
    (h1 : OptConc e lo lo') (h2 : OptConc e hi hi') (h3 : OptConc e mx mx') : ∃ u, conc e v = some u ∧ (Instr.sliceAt t x lo' hi' mx').run P w = .ok u w := by
  unfold sliceOpnA at h
  split at h
  case h_2 => cases h
  rename_i el b len hu
  simp only [Option.bind_eq_some_iff] at h
  obtain ⟨k, hk, ⟨t', k', cs⟩, hg, h⟩ := h
  split at h
  case isFalse => cases h
  rename_i hc
  simp only at hc
  obtain ⟨hk0, rfl⟩ := hc
  simp only [Option.bind_eq_some_iff] at h
  obtain ⟨_, hlo, h⟩ := h
  obtain ⟨b', q, ob, he, hb, hr⟩ := hs.at_ _ _ (St.get_eq hg)
  obtain ⟨vs, rest, hvs, rfl, _, hr2⟩ := cells_at hr
  have hql := hr2 _ rfl
  have l3 := concL_length hvs
  simp only [conc, he, Option.map_some, Option.some.injEq] at hx
  subst hx
  have hcap : ∀ m : Nat, m * k ≤ cs.length → m ≤ q := fun m hm => by
    rw [List.length_append] at hql
    exact Nat.le_of_mul_le_mul_right (by omega : m * k ≤ q * k) (by omega)
  have hl0 : ∀ (h : Nat) (r : Sem (Nat × Nat × Nat)) , True := fun _ _ => trivial
  have low : ∀ (y : Nat), (∀ c, lo' = some c → (Instr.sliceBound c y .sliceB).run P w = .ok 0 w) ∧ (∀ c, lo' = some c → (Instr.sliceBound c y .slice3C).run P w = .ok 0 w) := by
    intro y
    constructor <;> intro c hcl <;> subst hcl <;> cases lo <;> simp only [OptConc] at h1 <;> split at hlo <;> simp only [reduceCtorEq, Option.some.injEq] at hlo <;> rename_i h0 <;> simp only [Option.some.injEq, reduceCtorEq] at h0
    all_goals (subst h0; simp only [conc, Option.some.injEq] at h1; subst h1; simp [Instr.sliceBound, asIntOf])
  split at h
  · simp only [Option.some.injEq] at h; subst h
    cases hi' <;> simp only [OptConc] at h2
    cases mx' <;> simp only [OptConc] at h3
    refine ⟨_, by simp only [conc, he, Option.map_some]; rfl, ?_⟩
    cases lo' with
    | none => simp [Instr.sliceAt, Instr.slice, Instr.sliceBounds, run_underlying hu, szA_run P hk w, addr_add]
    | some c => simp [Instr.sliceAt, Instr.slice, Instr.sliceBounds, run_underlying hu, szA_run P hk w, addr_add, (low len).1 c rfl]
  · rename_i kh hh
    cases hi' <;> simp only [OptConc] at h2
    cases mx' <;> simp only [OptConc] at h3
    split at h <;> simp only [reduceCtorEq, Option.some.injEq] at h
    rename_i hle
    subst h
    simp only [conc, Option.some.injEq] at h2; subst h2
    have hq := hcap _ hle.2
    refine ⟨_, by simp only [conc, he, Option.map_some]; rfl, ?_⟩
    have hb0 : ∀ c, (Instr.sliceBound (.int kh hh) q c).run P w = .ok hh.toNat w := fun c => bound_int hle.1 (by omega) c w
    cases lo' with
    | none => simp [Instr.sliceAt, Instr.slice, Instr.sliceBounds, run_underlying hu, szA_run P hk w, addr_add, hb0]
    | some c => simp [Instr.sliceAt, Instr.slice, Instr.sliceBounds, run_underlying hu, szA_run P hk w, addr_add, hb0, (low hh.toNat).1 c rfl]
  · rename_i kh hh km m
    cases hi' <;> simp only [OptConc] at h2
    cases mx' <;> simp only [OptConc] at h3
    split at h <;> simp only [reduceCtorEq, Option.some.injEq] at h
    rename_i hle
    subst h
    simp only [conc, Option.some.injEq] at h2 h3; subst h2 h3
    have hq := hcap _ hle.2.2
    refine ⟨_, by simp only [conc, he, Option.map_some]; rfl, ?_⟩
    have hb0 : ∀ c, (Instr.sliceBound (.int km m) q c).run P w = .ok m.toNat w := fun c => bound_int (by omega) (by omega) c w
    have hb1 : ∀ c, (Instr.sliceBound (.int kh hh) m.toNat c).run P w = .ok hh.toNat w := fun c => bound_int hle.1 (by omega) c w
    cases lo' with
    | none => simp [Instr.sliceAt, Instr.slice, Instr.sliceBounds, run_underlying hu, szA_run P hk w, addr_add, hb0, hb1]
    | some c => simp [Instr.sliceAt, Instr.slice, Instr.sliceBounds, run_underlying hu, szA_run P hk w, addr_add, hb0, hb1, (low hh.toNat).2 c rfl]
  · cases h
theorem concM_length {e : Env} : ∀ {es : List (AV × AV × Nat)} {ms : List MapEntry}, concM e es = some ms → ms.length = es.length
  | [], ms, h => by simp [concM] at h; subst h; rfl
  | (k, v, b) :: es, ms, h => by
    simp only [concM, Option.bind_eq_some_iff, Option.map_eq_some_iff] at h
    obtain ⟨p, hp, q, hq, ms1, hms, rfl⟩ := h
    simp [concM_length hms]
set_option maxHeartbeats 1000000 in
theorem heapOp_run {e : Env} {s : St} {w : World} (hs : Sim e s w) {α : Operand → Option AV} {ρ : Operand → Value} (hr : Reads e α ρ) {o : Oper} {r : Option AV × St} (h : heapOp P o α s = some r)
    (hf : Free e s.next r.2.next) : HR e s w r ((execOp ρ o).run P w) := by
  have hfree : s.next < r.2.next → e s.next = none := fun hlt => hf _ (Nat.le_refl _) hlt
  unfold heapOp at h
  split at h
  case h_1 t ho =>
    simp only [Option.bind_eq_some_iff, newA, Option.some.injEq] at h
    obtain ⟨z, hz, rfl⟩ := h
    obtain ⟨zx, hz1, hz2⟩ := zeroA_run P hz e w
    obtain ⟨zs, hzs, hzc⟩ := cellsA_conc hz1
    refine newA_HR hs (hfree (Nat.lt_succ_self _)) hzs (.ptr s.next 0) (fun b => .pointer (some ⟨b, 0, none⟩)) (fun e' he => by simp [conc, he]) ?_
    simp only [execOp, ho, Instr.alloc, Sem.run_bind, hz2, Result.andThen_ok, newVar, newRow, hzc, run_newObj, Sem.run_pure]
  case h_2 t x ho =>
    simp only [Option.bind_eq_some_iff, newA, Option.some.injEq] at h
    obtain ⟨v, hv, rfl⟩ := h
    obtain ⟨zs, hzs, hzc⟩ := cellsA_conc (hr x v hv)
    refine newA_HR hs (hfree (Nat.lt_succ_self _)) hzs (.ptr s.next 0) (fun b => .pointer (some ⟨b, 0, none⟩)) (fun e' he => by simp [conc, he]) ?_
    simp only [execOp, ho, Instr.box, Sem.run_bind, Result.andThen_ok, newVar, newRow, hzc, run_newObj, Sem.run_pure]
  case h_3 t n ps ho =>
    simp only [Option.bind_eq_some_iff] at h
    obtain ⟨qs, hqs, h⟩ := h
    have hps := argP_conc hr _ _ hqs
    unfold buildSliceA at h
    split at h
    case h_2 => cases h
    rename_i el hu
    simp only [Option.bind_eq_some_iff] at h
    obtain ⟨k, hk, h⟩ := h
    split at h
    case isFalse => cases h
    rename_i hmax
    simp only [Option.bind_eq_some_iff] at h
    obtain ⟨z, hz, h⟩ := h
    split at h
    case isFalse => cases h
    rename_i hne
    simp only [Option.bind_eq_some_iff, Option.some.injEq] at h
    obtain ⟨cs, hcs, rfl⟩ := h
    have hzrun : ∃ zs, concL e z = some zs ∧ ((n * k = 0 ∧ zs = []) ∨ (n * k ≠ 0 ∧ ∃ zx, (zeroValue el).run P w = .ok zx w ∧ zx.cells = zs.toArray)) := by
      split at hz
      · rename_i h0; simp only [Option.some.injEq] at hz; subst hz; exact ⟨[], rfl, .inl ⟨h0, rfl⟩⟩
      · rename_i h0
        simp only [Option.map_eq_some_iff] at hz
        obtain ⟨zv, hzv, rfl⟩ := hz
        obtain ⟨zx, hz1, hz2⟩ := zeroA_run P hzv e w
        obtain ⟨zs, hzs, hzc⟩ := cellsA_conc hz1
        exact ⟨zs, hzs, .inr ⟨h0, zx, hz2, hzc⟩⟩
    obtain ⟨zs, hzs, hzr⟩ := hzrun
    obtain ⟨xs, hx1, hx2, _⟩ := repA_conc hzs hne
    obtain ⟨ys, hys, hfill⟩ := fillA_run hps hx1 hcs
    refine newA_HR hs (hfree (Nat.lt_succ_self _)) hys (.slice s.next 0 n n) (fun b => .slice (some ⟨b, 0, none⟩) n n) (fun e' he => by simp [conc, he]) ?_
    have hmap : (ps.map fun (i, x) => (i, ρ x)).toList = ps.toList.map fun (i, x) => (i, ρ x) := by simp
    have g0 : ¬ (n * k > 2 ^ 24) := by omega
    rcases hzr with ⟨h0, rfl⟩ | ⟨h0, zx, hzx, hzc⟩
    · have hx2' : (Array.map (fun i => (#[] : Array Value)[i % (#[] : Array Value).size]!) (Array.range (n * k))) = xs.toArray := hx2
      simp only [execOp, ho, Instr.buildSlice, Sem.run_bind, run_underlying hu, Result.andThen_ok, szA_run P hk w, g0, if_false, h0, (by decide : ¬ (0 > 2 ^ 24)), if_true, Sem.run_pure, h0 ▸ hx2', hmap, hfill, newRow, run_newObj]
    · simp only [execOp, ho, Instr.buildSlice, Sem.run_bind, run_underlying hu, Result.andThen_ok, szA_run P hk w, g0, if_false, h0, hzx, hzc, hx2, hmap, hfill, newRow, run_newObj, Sem.run_pure]
  case h_4 t x ho =>
    simp only [Option.bind_eq_some_iff, Option.map_eq_some_iff] at h
    obtain ⟨a, ha, v, hv, rfl⟩ := h
    obtain ⟨y, hy, hrun⟩ := loadA_run (P := P) hs hv (hr x a ha)
    exact HR.same hs hy (by simp [execOp, ho, hrun])
  case h_5 t x y ho =>
    simp only [Option.bind_eq_some_iff, Option.map_eq_some_iff] at h
    obtain ⟨a, ha, v, hv, s', hst, rfl⟩ := h
    obtain ⟨w', g1, g2, hrun⟩ := storeA_run (P := P) hs hst (hr x a ha) (hr y v hv)
    exact ⟨e, w', g1, g2, by simp [execOp, ho, hrun]⟩
  case h_6 t l c ho =>
    simp only [Option.bind_eq_some_iff] at h
    obtain ⟨a, ha, b, hb, h⟩ := h
    have hl := hr l a ha
    have hc := hr c b hb
    unfold makeSliceA at h
    split at h
    case h_2 => cases h
    rename_i el kl l' kc c' hu
    simp only [Option.bind_eq_some_iff] at h
    obtain ⟨i, hi, h⟩ := h
    split at h
    case isFalse => cases h
    rename_i hle
    simp only [Option.bind_eq_some_iff] at h
    obtain ⟨z, hz, h⟩ := h
    split at h
    case isFalse => cases h
    rename_i hne
    simp only [Option.some.injEq] at h; subst h
    simp only [conc, Option.some.injEq] at hl hc
    have hzrun : ∃ zs, concL e z = some zs ∧ ((c'.toNat * i.size = 0 ∧ zs = []) ∨ (c'.toNat * i.size ≠ 0 ∧ ∃ zx, (zeroValue el).run P w = .ok zx w ∧ zx.cells = zs.toArray)) := by
      split at hz
      · rename_i h0; simp only [Option.some.injEq] at hz; subst hz; exact ⟨[], rfl, .inl ⟨h0, rfl⟩⟩
      · rename_i h0
        simp only [Option.map_eq_some_iff] at hz
        obtain ⟨zv, hzv, rfl⟩ := hz
        obtain ⟨zx, hz1, hz2⟩ := zeroA_run P hzv e w
        obtain ⟨zs, hzs, hzc⟩ := cellsA_conc hz1
        exact ⟨zs, hzs, .inr ⟨h0, zx, hz2, hzc⟩⟩
    obtain ⟨zs, hzs, hzr⟩ := hzrun
    obtain ⟨xs, hx1, hx2, _⟩ := repA_conc hzs hne
    refine newA_HR hs (hfree (Nat.lt_succ_self _)) hx1 (.slice s.next 0 l'.toNat c'.toNat) (fun b => .slice (some ⟨b, 0, none⟩) l'.toNat c'.toNat) (fun e' he => by simp [conc, he]) ?_
    have wr : ∀ n : Int, 0 ≤ n → n < 1048576 → IntKind.i64.wrap n = n := fun n h0 h1 => by
      have hm : n % (2 ^ 64 : Int) = n := Int.emod_eq_of_lt h0 (by omega)
      have : ¬ (n ≥ (2 ^ 63 : Int)) := by omega
      simp only [IntKind.wrap, IntKind.bits, IntKind.signed, hm, Bool.true_and, decide_eq_true_eq]
      rw [if_neg (by omega)]
    have w1 := wr l' hle.1 (by omega)
    have w2 := wr c' (by omega) hle.2.2.1
    have bnd : ∀ n : Int, 0 ≤ n → n < 1048576 → (decide (n < 0) || decide ((i.bytes : Int) * n > 2 ^ 48)) = false := fun n h0 h1 => by
      have hb : (i.bytes : Int) * n ≤ 1048576 * 1048576 := Int.mul_le_mul (by omega) (by omega) h0 (by omega)
      simp only [Bool.or_eq_false_iff, decide_eq_false_iff_not]
      omega
    have b2 := bnd c' (by omega) hle.2.2.1
    have n1 : ¬ (l' < 0) := by omega
    have n2 : ¬ (l' > c') := by omega
    have hsz : (sizeOf el).run P w = .ok i.size w := szA_run P (show szA P el = some i.size by simp [szA, hi]) w
    rcases hzr with ⟨h0, rfl⟩ | ⟨h0, zx, hzx, hzc⟩
    · have hx2' : (Array.map (fun i => (#[] : Array Value)[i % (#[] : Array Value).size]!) (Array.range (c'.toNat * i.size))) = xs.toArray := hx2
      simp only [execOp, ho, ← hl, ← hc, Instr.makeSlice, Sem.run_bind, run_underlying hu, Result.andThen_ok, asInt, asIntOf, Sem.run_pure, run_typeInfo w hi, w1, w2, b2, n1, n2, decide_false, Bool.false_or, Bool.or_false, Bool.false_eq_true, if_false, or_self,
        run_askRoom, hsz, h0, if_true, h0 ▸ hx2', newRow, run_newObj]
    · simp only [execOp, ho, ← hl, ← hc, Instr.makeSlice, Sem.run_bind, run_underlying hu, Result.andThen_ok, asInt, asIntOf, Sem.run_pure, run_typeInfo w hi, w1, w2, b2, n1, n2, decide_false, Bool.false_or, Bool.or_false, Bool.false_eq_true, if_false, or_self,
        run_askRoom, hsz, h0, hzx, hzc, hx2, newRow, run_newObj]
  case h_7 t x lo hi mx ho =>
    simp only [Option.bind_eq_some_iff, Option.map_eq_some_iff] at h
    obtain ⟨a, ha, l, hl, hh, hhh, m, hm, v, hv, rfl⟩ := h
    obtain ⟨u, hu, hrun⟩ := sliceOpnA_run (P := P) hs hv (hr x a ha) (optArg_conc hr hl) (optArg_conc hr hhh) (optArg_conc hr hm)
    exact HR.same hs hu (by simp [execOp, ho, hrun])
  case h_8 args ats ho =>
    simp only [Option.bind_eq_some_iff] at h
    obtain ⟨vs, hvs, h⟩ := h
    split at h
    case h_2 => cases h
    rename_i a x st xt hat
    simp only [Option.map_eq_some_iff] at h
    obtain ⟨⟨v, s'⟩, happ, rfl⟩ := h
    obtain ⟨A, ys, hA, hys, hl⟩ := concL_cons (argL_map hr hvs)
    obtain ⟨X, hX, rfl⟩ := concL_one hys
    obtain ⟨e', w', g1, g2, V, hV, hrun⟩ := appendA_run (P := P) (ty := o.type) hs happ hA hX hf
    refine ⟨e', w', g1, g2, V, hV, ?_⟩
    have hats : ats = #[st, xt] := by rw [← Array.toArray_toList (xs := ats), hat]
    simp [execOp, ho, resolve, invoke, builtin, arr_eq hl, hats, hrun]
  case h_9 t x ho =>
    simp only [Option.bind_eq_some_iff] at h
    obtain ⟨a, ha, h⟩ := h
    have hx := hr x a ha
    split at h
    case h_2 => cases h
    rename_i b hu
    simp only [Option.some.injEq] at h; subst h
    simp only [conc, Option.some.injEq] at hx
    have := hs.add (blk := .iter b 0) (ob := .stringIter b 0) (w' := { w with heap := w.heap.push (.stringIter b 0) }) 0 (hfree (Nat.lt_succ_self _)) (by simp) (by simp) (fun k hk => by rw [Array.getElem?_push, if_neg (by omega)]) rfl rfl rfl rfl
    refine ⟨_, _, this.1, this.2, .pointer (some ⟨w.heap.size, 0, none⟩), by simp [conc, Env.upd_self], ?_⟩
    simp only [execOp, ho, ← hx, Instr.range, Sem.run_bind, run_underlying hu, Result.andThen_ok, run_newObj, Sem.run_pure]
  case h_10 x ho =>
    simp only [Option.bind_eq_some_iff] at h
    obtain ⟨a, ha, h⟩ := h
    have hx := hr x a ha
    split at h
    case h_2 => cases h
    rename_i n
    split at h
    case h_2 => cases h
    rename_i b pos hg
    obtain ⟨b', q, ob, he, hb, hrel⟩ := hs.at_ _ _ hg
    have hob : ob = .stringIter b pos := hrel
    subst hob
    simp only [conc, he, Option.map_some, Option.some.injEq] at hx
    have hgo : (getObj b').run P w = .ok (.stringIter b pos) w := by simp [getObj, Sem.run, hb]
    split at h
    · rename_i hlt
      simp only [Option.some.injEq] at h; subst h
      have hlt' : b' < w.heap.size := (Array.getElem?_eq_some_iff.1 hb).1
      let w' : World := { w with heap := w.heap.setIfInBounds b' (.stringIter b (pos + (Utf8.decode b pos).2)) }
      have hput := hs.put (blk' := .iter b (pos + (Utf8.decode b pos).2)) (ob := .stringIter b (pos + (Utf8.decode b pos).2)) (w' := w') hg trivial he (by simp [w']) (by simp [w', hlt']) (fun k hk => by simp [w', Array.getElem?_setIfInBounds_ne (Ne.symm hk)]) rfl rfl rfl rfl
      have hset : (setObj b' (.stringIter b (pos + (Utf8.decode b pos).2))).run P w = .ok () w' := by simp [setObj, Sem.run, hb, w']
      refine ⟨e, w', hput.1, hput.2, .tuple #[.bool true, goInt pos, .int .i32 (Utf8.decode b pos).1], by simp [conc, concL, goInt], ?_⟩
      simp [execOp, ho, ← hx, Instr.next, hgo, hlt, hset]
    · rename_i hlt
      simp only [Option.some.injEq] at h; subst h
      exact HR.same hs (x := .tuple #[.bool false]) (by simp [conc, concL]) (by simp [execOp, ho, ← hx, Instr.next, hgo, hlt])
  case h_11 t ho =>
    simp only [Option.some.injEq] at h; subst h
    have := hs.add (blk := .map [] 0) (ob := .map #[] 0) (w' := { w with heap := w.heap.push (.map #[] 0) }) 0 (hfree (Nat.lt_succ_self _)) (by simp) (by simp) (fun k hk => by rw [Array.getElem?_push, if_neg (by omega)]) ⟨[], rfl, rfl⟩ rfl rfl rfl
    refine ⟨_, _, this.1, this.2, .map (some w.heap.size), by simp [conc, Env.upd_self], ?_⟩
    simp only [execOp, ho, Option.map_none, Instr.makeMap, Sem.run_bind, run_newObj, Result.andThen_ok, Sem.run_pure]
  case h_12 t x k ok ho =>
    simp only [Option.bind_eq_some_iff, Option.map_eq_some_iff] at h
    obtain ⟨a, ha, b, hb, v, hv, rfl⟩ := h
    obtain ⟨y, hy, hrun⟩ := lookupA_run (P := P) hs hv (hr x a ha) (hr k b hb)
    exact HR.same hs hy (by simp [execOp, ho, hrun])
  case h_13 t m k v ho =>
    simp only [Option.bind_eq_some_iff, Option.map_eq_some_iff] at h
    obtain ⟨a, ha, b, hb, c, hc, s', hst, rfl⟩ := h
    obtain ⟨w', g1, g2, hrun⟩ := mapUpdateA_run (P := P) hs hst (hr m a ha) (hr k b hb) (hr v c hc)
    exact ⟨e, w', g1, g2, by simp [execOp, ho, hrun]⟩
  case h_14 args ats ho =>
    simp only [Option.bind_eq_some_iff] at h
    obtain ⟨vs, hvs, h⟩ := h
    split at h
    case h_2 => cases h
    rename_i n t hat
    split at h
    case h_2 => cases h
    rename_i kt el es c hu hg
    cases h
    obtain ⟨X, hX, hl⟩ := concL_one (argL_map hr hvs)
    obtain ⟨b', q, ob, he, hb, ms, hm, rfl⟩ := hs.at_ _ _ hg
    simp only [conc, he, Option.map_some, Option.some.injEq] at hX
    subst hX
    have hgo : (getObj b').run P w = .ok (.map ms.toArray c) w := by simp [getObj, Sem.run, hb]
    have hlen : ms.length = es.length := concM_length hm
    refine HR.same hs (x := .int .i64 es.length) (by simp [conc]) ?_
    simp [execOp, ho, resolve, invoke, builtin, arr_eq hl, Builtin.len_, hat, run_underlying hu, hgo, hlen, goInt]
  case h_15 => cases h
end Go.Abs
/- Frames, operations with calls, code: what they do. -/
namespace Go.Abs
inductive Tg where
  | fn (f : FuncId)
  | yld (l : Nat)
inductive Rt where
  | ret (v : AV)
  | pan (v : AV)
inductive RC where
  | no
  | quiet
  | pend (v : AV)
  | done (v : AV)
def RC.got (v : AV) : RC → RC
  | .quiet => .quiet
  | _ => .done v
inductive Dfr where
  | fn (f : FuncId) (aas cs : List AV)
  | coll (n : Nat)
structure Fr where
  tm : List AV
  df : List Dfr
  rc : RC
  ro : Option Nat
inductive Ex where
  | norm
  | exit (id : Nat)
  | ret
  | pan (v : AV)
abbrev CallF := Tg → List AV → St → Option (Rt × St)
noncomputable def putA (d : Option Tmp) (v : AV) (tm : List AV) : List AV := match d with | some d => setR v tm d | none => tm
noncomputable def Fr.put (fr : Fr) (d : Option Tmp) (v : AV) : Fr := { fr with tm := putA d v fr.tm }
def wantedA (ops : Array Oper) (o : Oper) (tm : List AV) : Bool :=
  match o.guard with
  | none => true
  | some (j, want) => match ((ops[j]?).bind (·.dst)).bind (tm[·]?) with
    | some (.bool b) => b == want
    | _ => false
def enterable (P : Program) (f : FuncId) : Bool :=
  match P.funcs[f]? with
  | some fn => fn.name != "runtime.NumGoroutine" && fn.body.isSome
  | none => false
def notPtr : TypeDesc → Bool
  | .pointer _ => false
  | _ => true
def calleeA (P : Program) (α : Operand → Option AV) (c : Call) : Option (Tg × List AV) :=
  match c.callee with
  | .value x => (α x).bind fun v => (argL α c.args.toList).bind fun aas => match v with
    | .func f first cap => if enterable P f then some (.fn f, first ++ aas ++ cap) else none
    | .yld l => some (.yld l, aas)
    | _ => none
  | .invoke x name => (α x).bind fun v => (argL α c.args.toList).bind fun aas => match v with
    | .iface t u => (P.info? t).bind fun i => (i.methods.find? (·.name == name)).bind fun m => match m.path.toList, m.func, P.underlying t with
      | [], some (f, false), some d => if notPtr d && enterable P f then some (.fn f, u :: aas) else none
      | _, _, _ => none
    | _ => none
  | .builtin _ => none
/-- What is handed out by a function of the library that has no body. -/
def externA (P : Program) (f : FuncId) (aas : List AV) : Option AV := (P.funcs[f]?).bind fun fn => if fn.body.isNone && fn.origin == "" then
    if fn.name == "internal/bytealg.CountString" then (match aas with | [.str s, .int .u8 c] => some (.int .i64 (Lib.countByte s.data.toList c.toNat.toUInt8)) | _ => none)
    else if fn.name == "internal/bytealg.IndexByteString" then (match aas with | [.str s, .int .u8 c] => some (.int .i64 (Lib.indexByte s.data.toList c.toNat.toUInt8)) | _ => none)
    else none else none
def externC (P : Program) (α : Operand → Option AV) (c : Call) : Option AV :=
  match c.callee with
  | .value x => (α x).bind fun v => (argL α c.args.toList).bind fun aas => match v with
    | .func f [] [] => externA P f aas
    | _ => none
  | _ => none
inductive OR where
  | put (v : AV)
  | pan (v : AV)
  | dfr (d : Dfr)
  | rcv (v : AV)
noncomputable def opX (P : Program) (call : CallF) (o : Oper) (α : Operand → Option AV) (ro : Option Nat) (rc : RC) (s : St) : Option (OR × St) :=
  match pureOp P o α with
  | some v => some (.put v, s)
  | none =>
    match heapOp P o α s with
    | some (r, s') => some (.put (r.getD (.tup [])), s')
    | none =>
      match o.op with
      | .call { callee := .builtin .recover, args := _, argTypes := _ } =>
        match ro, rc with
        | none, .pend v => some (.rcv v, s)
        | none, .quiet => some (.rcv .nilIface, s)
        | _, _ => none
      | .call c => match calleeA P α c with
        | some (tg, aas) => (call tg aas s).map fun (r, s') => (match r with | .ret v => .put v | .pan v => .pan v, s')
        | none => (externC P α c).map fun v => (.put v, s)
      | .panic x => (α x).bind fun v => match v with
        | .iface t u => some (.pan (.iface t u), s)
        | _ => none
      | .defer c =>
        match ro, c.callee with
        | none, .value x => (α x).bind fun v => (argL α c.args.toList).bind fun aas => match v with
          | .func f first cap => if enterable P f then some (.dfr (.fn f (first ++ aas) cap), s) else none
          | _ => none
        | _, _ => none
      | _ => none
noncomputable def opA (P : Program) (call : CallF) (ops : Array Oper) (o : Oper) (fr : Fr) (s : St) : Option (Option AV × Fr × St) :=
  if wantedA ops o fr.tm then
    (opX P call o (arg fr.tm) fr.ro fr.rc s).map fun (r, s') => match r with
    | .put v => (none, fr.put o.dst v, s')
    | .pan v => (some v, fr, s')
    | .dfr d => (none, { fr with tm := putA o.dst (.tup []) fr.tm, df := d :: fr.df }, s')
    | .rcv v => (none, { fr with tm := putA o.dst v fr.tm, rc := fr.rc.got v }, s')
  else some (none, fr.put o.dst (.tup []), s)
def concD (e : Env) : Dfr → Option Deferred
  | .fn f aas cs => (concL e aas).bind fun x => (concL e cs).map fun y => { target := .fn (.func f) y.toArray, args := x.toArray }
  | .coll n => (e n).map fun p => { target := .collected p.1, args := #[] }
def concDL (e : Env) : List Dfr → Option (List Deferred)
  | [] => some []
  | d :: ds => (concD e d).bind fun x => (concDL e ds).map (x :: ·)
theorem concD_le {e e' : Env} (h : e.le e') {d : Dfr} {x : Deferred} (hx : concD e d = some x) : concD e' d = some x := by
  cases d with
  | fn f aas cs =>
    simp only [concD, Option.bind_eq_some_iff, Option.map_eq_some_iff] at hx ⊢
    obtain ⟨a, ha, c, hc, rfl⟩ := hx
    exact ⟨a, concL_le h _ _ ha, c, concL_le h _ _ hc, rfl⟩
  | coll n =>
    simp only [concD, Option.map_eq_some_iff] at hx ⊢
    obtain ⟨p, hp, rfl⟩ := hx
    exact ⟨p, h _ _ hp, rfl⟩
theorem concDL_le {e e' : Env} (h : e.le e') : ∀ {ds : List Dfr} {xs : List Deferred}, concDL e ds = some xs → concDL e' ds = some xs
  | [], _, hx => hx
  | d :: ds, xs, hx => by
    simp only [concDL, Option.bind_eq_some_iff, Option.map_eq_some_iff] at hx ⊢
    obtain ⟨a, ha, c, hc, rfl⟩ := hx
    exact ⟨a, concD_le h ha, c, concDL_le h hc, rfl⟩
/-- The callers of a frame: as they were, or the one below on its way out with a panic. -/
def CsOk (e : Env) (rc : RC) (b : Frame) (cs0 cs : List Frame) : Prop :=
  match rc with
  | .no => cs = cs0
  | .quiet => b.kind = .deferred ∧ ∃ c rest, cs0 = c :: rest ∧ c.mode = .returning ∧ cs = cs0
  | .pend v => b.kind = .deferred ∧ ∃ c rest x, cs0 = c :: rest ∧ conc e v = some x ∧ cs = { c with mode := .panicking [{ v := x, recovered := false }] } :: rest
  | .done v => b.kind = .deferred ∧ ∃ c rest x, cs0 = c :: rest ∧ conc e v = some x ∧ cs = { c with mode := .panicking [{ v := x, recovered := true }] } :: rest
structure FR (e : Env) (fr : Fr) (b : Frame) (cs0 : List Frame) (a : Act) (cs : List Frame) : Prop where
  tm : ∃ ts, concL e fr.tm = some ts ∧ a.tmps = ts.toArray
  df : concDL e fr.df = some a.defers
  ro : match fr.ro with | none => b.roundOf = none | some l => ∃ p, e l = some p ∧ b.roundOf = some p.1
  rc : CsOk e fr.rc b cs0 cs
theorem FR.le {e e' : Env} (h : e.le e') {fr : Fr} {b : Frame} {cs0 cs : List Frame} {a : Act} (r : FR e fr b cs0 a cs) : FR e' fr b cs0 a cs := by
  obtain ⟨⟨ts, h1, h2⟩, h3, h4, h5⟩ := r
  refine ⟨⟨ts, concL_le h _ _ h1, h2⟩, concDL_le h h3, ?_, ?_⟩
  · cases hr : fr.ro with
    | none => simpa [hr] using h4
    | some l => simp only [hr] at h4 ⊢; obtain ⟨p, hp, hb⟩ := h4; exact ⟨p, h _ _ hp, hb⟩
  · cases hr : fr.rc <;> simp only [hr, CsOk] at h5 ⊢
    · exact h5
    · exact h5
    · obtain ⟨hk, c, rest, x, e1, e2, e3⟩ := h5; exact ⟨hk, c, rest, x, e1, conc_le h _ _ e2, e3⟩
    · obtain ⟨hk, c, rest, x, e1, e2, e3⟩ := h5; exact ⟨hk, c, rest, x, e1, conc_le h _ _ e2, e3⟩
theorem FR.reads {e : Env} {fr : Fr} {b : Frame} {cs0 cs : List Frame} {a : Act} (r : FR e fr b cs0 a cs) : Reads e (arg fr.tm) a.eval := by
  obtain ⟨ts, h1, h2⟩ := r.tm; exact reads_arg h1 a h2
theorem put_tm {e : Env} {tm : List AV} {ts : List Value} {a : Act} (h : concL e tm = some ts) (ha : a.tmps = ts.toArray) (d : Option Tmp) {v : AV} {x : Value} (hv : conc e v = some x) :
    ∃ us, concL e (putA d v tm) = some us ∧ (a.put d x).tmps = us.toArray := by
  cases d with
  | none => exact ⟨ts, h, ha⟩
  | some d => exact ⟨ts.set d x, by simp only [putA, setR_eq]; exact concL_set h d hv, by simp [Act.put, ha]⟩
theorem put_defers (a : Act) (d : Option Tmp) (x : Value) : (a.put d x).defers = a.defers := by cases d <;> rfl
theorem FR.put {e : Env} {fr : Fr} {b : Frame} {cs0 cs : List Frame} {a : Act} (r : FR e fr b cs0 a cs) (d : Option Tmp) {v : AV} {x : Value} (hv : conc e v = some x) : FR e (fr.put d v) b cs0 (a.put d x) cs := by
  obtain ⟨⟨ts, h1, h2⟩, h3, h4, h5⟩ := r
  exact ⟨put_tm h1 h2 d hv, by rw [put_defers]; exact h3, h4, h5⟩
theorem wantedA_eq {e : Env} {ops : Array Oper} {o : Oper} {tm : List AV} {ts : List Value} (h : concL e tm = some ts) : wantedA ops o tm = Region.wanted o (yielded ops ts.toArray) := by
  unfold wantedA Region.wanted
  cases hg : o.guard with
  | none => rfl
  | some g =>
    obtain ⟨j, want⟩ := g
    simp only [yielded]
    cases hd : (ops[j]?).bind (·.dst) with
    | none => simp
    | some d =>
      simp only [Option.bind_some, List.getElem?_toArray]
      cases hv : tm[d]? with
      | none =>
        have hl := concL_length h
        have : ts[d]? = none := by rw [List.getElem?_eq_none_iff] at hv ⊢; omega
        simp [this]
      | some v =>
        obtain ⟨x, hx, hc⟩ := concL_get h d v hv
        simp only [hx]
        cases v <;> simp only [conc, Option.some.injEq, Option.map_eq_some_iff, Option.bind_eq_some_iff] at hc <;>
          first | (subst hc; first | rfl | (cases want <;> simp)) | (obtain ⟨_, _, rfl⟩ := hc; simp) | (obtain ⟨_, _, _, _, rfl⟩ := hc; simp)
end Go.Abs
/- One operation in a frame: its step. -/
namespace Go.Abs
variable {P : Program} {b : Frame} {a : Act} {k : List Item} {cs : List Frame} {w w' : World} {ops : Array Oper} {i : Nat} {rest : List Nat} {o : Oper}
theorem stepA_value {v : Value} (ho : ops[i]? = some o) (hw : Region.wanted o (yielded ops a.tmps) = true) (hr : (o.semAt b.roundOf a.eval).run P w = .ok (.value v) w') :
    step P (lone (b.atR a (.inRegion ops (i :: rest) :: k)) cs w) = .next (lone (b.atR (a.put o.dst v) (.inRegion ops rest :: k)) cs w') := by
  have hg := stepGR_op (P := P) (b := b) (k := k) (cs := cs) (w := w) (rest := rest) ho hw
  have hfin : (b.atR a (.inRegion ops (i :: rest) :: k)).finish v = b.atR (a.put o.dst v) (.inRegion ops rest :: k) := by rw [Frame.finish_atR, ho]; rfl
  refine step_lone_go ?_
  rw [hg, ← hfin]; simp [stepG.apply, hr]
theorem stepA_skip (ho : ops[i]? = some o) (hw : Region.wanted o (yielded ops a.tmps) = true) (hr : (o.semAt b.roundOf a.eval).run P w = .ok .skip w') :
    step P (lone (b.atR a (.inRegion ops (i :: rest) :: k)) cs w) = .next (lone (b.atR (a.put o.dst undef) (.inRegion ops rest :: k)) cs w') := by
  have hg := stepGR_op (P := P) (b := b) (k := k) (cs := cs) (w := w) (rest := rest) ho hw
  have hfin : (b.atR a (.inRegion ops (i :: rest) :: k)).finish undef = b.atR (a.put o.dst undef) (.inRegion ops rest :: k) := by rw [Frame.finish_atR, ho]; rfl
  refine step_lone_go ?_
  rw [hg, ← hfin]; simp [stepG.apply, hr]
theorem stepA_defer {d : Deferred} (ho : ops[i]? = some o) (hw : Region.wanted o (yielded ops a.tmps) = true) (hr : (o.semAt b.roundOf a.eval).run P w = .ok (.defer d) w') :
    step P (lone (b.atR a (.inRegion ops (i :: rest) :: k)) cs w) = .next (lone (b.atR ({ a with defers := d :: a.defers }.put o.dst undef) (.inRegion ops rest :: k)) cs w') := by
  have hg := stepGR_op (P := P) (b := b) (k := k) (cs := cs) (w := w) (rest := rest) ho hw
  refine step_lone_go ?_
  have : ({ b.atR a (.inRegion ops (i :: rest) :: k) with defers := d :: a.defers } : Frame).finish undef =
      b.atR ({ a with defers := d :: a.defers }.put o.dst undef) (.inRegion ops rest :: k) := by
    have := Frame.finish_atR b { a with defers := d :: a.defers } ops i rest k undef
    rw [ho] at this; exact this
  rw [hg]; simp only [stepG.apply, Sem.runT_eq, hr, GStep.bare_after]
  exact congrArg (fun fr => GStep.go { frame := fr, callers := cs, status := .running, dying := none } w') this
theorem stepA_enter {f : FuncId} {args : Array Value} (ho : ops[i]? = some o) (hw : Region.wanted o (yielded ops a.tmps) = true) (hr : (o.semAt b.roundOf a.eval).run P w = .ok (.enter f args) w') :
    step P (lone (b.atR a (.inRegion ops (i :: rest) :: k)) cs w) = .next (lone (Frame.enter P f args .normal) (b.atR a (.inRegion ops (i :: rest) :: k) :: cs) w') := by
  have hg := stepGR_op (P := P) (b := b) (k := k) (cs := cs) (w := w) (rest := rest) ho hw
  exact step_lone_go (by rw [hg]; simp [stepG.apply, hr, Frame.atR])
theorem stepA_round {l : Nat} {f : FuncId} {tmps : Array Value} {aas bd : Code} (ho : ops[i]? = some o) (hw : Region.wanted o (yielded ops a.tmps) = true) (hr : (o.semAt b.roundOf a.eval).run P w = .ok (.round l f tmps aas bd) w') :
    step P (lone (b.atR a (.inRegion ops (i :: rest) :: k)) cs w) = .next (lone (Frame.round l f tmps aas bd .normal) (b.atR a (.inRegion ops (i :: rest) :: k) :: cs) w') := by
  have hg := stepGR_op (P := P) (b := b) (k := k) (cs := cs) (w := w) (rest := rest) ho hw
  exact step_lone_go (by rw [hg]; simp [stepG.apply, hr, Frame.atR])
theorem stepA_panic {v : Value} (ho : ops[i]? = some o) (hw : Region.wanted o (yielded ops a.tmps) = true) (hr : (o.semAt b.roundOf a.eval).run P w = .halt (.panic v) w') :
    step P (lone (b.atR a (.inRegion ops (i :: rest) :: k)) cs w) = .next (lone { b.atR a (.inRegion ops (i :: rest) :: k) with mode := .panicking [{ v, recovered := false }] } cs w') := by
  have hg := stepGR_op (P := P) (b := b) (k := k) (cs := cs) (w := w) (rest := rest) ho hw
  exact step_lone_go (by rw [hg, ← Frame.raise_atR]; simp [stepG.apply, hr])
theorem stepA_recover {v : Value} {cs' : List Frame} (ho : ops[i]? = some o) (hw : Region.wanted o (yielded ops a.tmps) = true) (hr : (execOp a.eval o).run P w = .ok .recover w') (hb : b.roundOf = none) (ht : tryRecover (b.atR a (.inRegion ops (i :: rest) :: k)) cs = some (v, cs')) :
    step P (lone (b.atR a (.inRegion ops (i :: rest) :: k)) cs w) = .next (lone (b.atR (a.put o.dst v) (.inRegion ops rest :: k)) cs' w') := by
  have hg := stepGR_op (P := P) (b := b) (k := k) (cs := cs) (w := w) (rest := rest) ho hw
  rw [hb, Oper.semAt_none] at hg
  have hfin : (b.atR a (.inRegion ops (i :: rest) :: k)).finish v = b.atR (a.put o.dst v) (.inRegion ops rest :: k) := by rw [Frame.finish_atR, ho]; rfl
  refine step_lone_go ?_
  rw [hg, ← hfin]
  simp only [Frame.atR, hb] at ht ⊢
  simp [stepG.apply, hr, ht]
theorem stepA_recover0 (ho : ops[i]? = some o) (hw : Region.wanted o (yielded ops a.tmps) = true) (hr : (execOp a.eval o).run P w = .ok .recover w') (hb : b.roundOf = none) (ht : tryRecover (b.atR a (.inRegion ops (i :: rest) :: k)) cs = none) :
    step P (lone (b.atR a (.inRegion ops (i :: rest) :: k)) cs w) = .next (lone (b.atR (a.put o.dst .nilIface) (.inRegion ops rest :: k)) cs w') := by
  have hg := stepGR_op (P := P) (b := b) (k := k) (cs := cs) (w := w) (rest := rest) ho hw
  rw [hb, Oper.semAt_none] at hg
  have hfin : (b.atR a (.inRegion ops (i :: rest) :: k)).finish .nilIface = b.atR (a.put o.dst .nilIface) (.inRegion ops rest :: k) := by rw [Frame.finish_atR, ho]; rfl
  refine step_lone_go ?_
  rw [hg, ← hfin]
  simp only [Frame.atR, hb] at ht ⊢
  simp [stepG.apply, hr, ht]
/-- How a call ends, at its caller. -/
def EndsAt (P : Program) (m : Machine) (c : Frame) (cs : List Frame) (e : Env) (r : Rt) (w : World) : Prop :=
  match r with
  | .ret v => ∃ x, conc e v = some x ∧ Steps P m (lone (c.finish x) cs w)
  | .pan v => ∃ x, conc e v = some x ∧ Steps P m (lone (c.raise [{ v := x, recovered := false }]) cs w)
/-- What a target does, once it is called. -/
def Starts (P : Program) (e : Env) (w : World) (tg : Tg) (xs : List Value) (m : Machine → Prop) (c : Frame) (cs : List Frame) : Prop :=
  match tg with
  | .fn f => m (lone (Frame.enter P f xs.toArray .normal) (c :: cs) w)
  | .yld l => ∀ q, e l = some q → ∃ r, w.heap[q.1]? = some (.loop r) ∧ xs.length = r.params.size ∧ m (lone (Frame.round q.1 r.fn ((r.params.zip xs.toArray).foldl (fun tmps (t, a) => tmps.setIfInBounds t a) r.tmps) r.assign r.body .normal) (c :: cs) w)
def CallOk (P : Program) (call : CallF) : Prop :=
  ∀ tg args s r s', call tg args s = some (r, s') → ∀ e w, Sim e s w → Free e s.next s'.next → ∀ xs, concL e args = some xs → ∀ (c : Frame) (cs : List Frame),
    ∃ e' w', Sim e' s' w' ∧ Goes e s w e' s' w' ∧ Starts P e w tg xs (fun m => EndsAt P m c cs e' r w') c cs
theorem callFunc_run {f : FuncId} (h : enterable P f = true) (args : Array Value) (w : World) : (callFunc f args).run P w = .ok (.enter f args) w := by
  unfold enterable at h
  split at h
  · rename_i fn hf
    simp only [Bool.and_eq_true, bne_iff_ne, ne_eq] at h
    obtain ⟨h1, h2⟩ := h
    have h1' : ¬ ((fn.name == "runtime.NumGoroutine") = true) := by simpa using h1
    have h2' : ¬ (fn.body.isNone = true) := by cases hb : fn.body <;> simp [hb] at h2 ⊢
    simp only [callFunc, Sem.run_bind, run_program, Result.andThen_ok, hf, h1', if_false, h2', Bool.false_eq_true, Sem.run_pure]
  · cases h
def Leads (P : Program) (e : Env) (w : World) (tg : Tg) (xs : List Value) (m : Sem Next) : Prop :=
  match tg with
  | .fn f => m.run P w = .ok (.enter f xs.toArray) w
  | .yld l => ∃ q, e l = some q ∧ ∀ r, w.heap[q.1]? = some (.loop r) → xs.length = r.params.size → m.run P w = .ok (.round q.1 r.fn ((r.params.zip xs.toArray).foldl (fun tmps (t, a) => tmps.setIfInBounds t a) r.tmps) r.assign r.body) w
theorem find_count {fn : Func} (h : fn.name = "internal/bytealg.CountString") : Extern.find fn = some Extern.BytealgCount.count := by
  obtain ⟨⟩ := fn; subst h; kernel_rfl
theorem find_index {fn : Func} (h : fn.name = "internal/bytealg.IndexByteString") : Extern.find fn = some Extern.BytealgIndexByte.indexByte := by
  obtain ⟨⟩ := fn; subst h; kernel_rfl
theorem next_count {fn : Func} (h : fn.name = "internal/bytealg.CountString") (ho : fn.origin = "") : Extern.findNext fn = none := by
  obtain ⟨⟩ := fn; subst h; subst ho; kernel_rfl
theorem next_index {fn : Func} (h : fn.name = "internal/bytealg.IndexByteString") (ho : fn.origin = "") : Extern.findNext fn = none := by
  obtain ⟨⟩ := fn; subst h; subst ho; kernel_rfl
theorem externA_run {e : Env} {f : FuncId} {aas : List AV} {v : AV} {xs : List Value} (h : externA P f aas = some v) (hx : concL e aas = some xs) (w : World) : ∃ x, conc e v = some x ∧ (callFunc f xs.toArray).run P w = .ok (.value x) w := by
  simp only [externA, Option.bind_eq_some_iff] at h
  obtain ⟨fn, hf, h⟩ := h
  split at h
  case isFalse => cases h
  rename_i hb
  simp only [Bool.and_eq_true, beq_iff_eq] at hb
  obtain ⟨hb, ho⟩ := hb
  split at h
  · rename_i hn
    simp only [beq_iff_eq] at hn
    split at h <;> simp only [reduceCtorEq, Option.some.injEq] at h
    subst h
    simp only [concL, conc, Option.bind_some, Option.map_some, Option.some.injEq] at hx
    subst hx
    refine ⟨_, rfl, ?_⟩
    rw [run_callFunc_extern hf (by rw [hn]; decide) hb (next_count hn ho) (find_count hn), Lib.run_countString]; rfl
  · split at h
    · rename_i hn
      simp only [beq_iff_eq] at hn
      split at h <;> simp only [reduceCtorEq, Option.some.injEq] at h
      subst h
      simp only [concL, conc, Option.bind_some, Option.map_some, Option.some.injEq] at hx
      subst hx
      refine ⟨_, rfl, ?_⟩
      rw [run_callFunc_extern hf (by rw [hn]; decide) hb (next_index hn ho) (find_index hn), Lib.run_indexByteString]; rfl
    · cases h
theorem externC_run {e : Env} {w : World} {α : Operand → Option AV} {ρ : Operand → Value} (hr : Reads e α ρ) {c : Call} {v : AV} (h : externC P α c = some v) (ty : TypeId) :
    ∃ x, conc e v = some x ∧ (do let d ← resolve ρ c ty; invoke d.target d.args : Sem Next).run P w = .ok (.value x) w := by
  unfold externC at h
  split at h
  case h_2 => cases h
  rename_i x hcx
  simp only [Option.bind_eq_some_iff] at h
  obtain ⟨u, hv, us, hus, h⟩ := h
  have hx := hr x u hv
  have hargs := argL_map hr hus
  split at h
  case h_2 => cases h
  rename_i f
  simp only [conc, concL, Option.bind_some, Option.map_some, Option.some.injEq] at hx
  obtain ⟨y, hy, hrun⟩ := externA_run (P := P) h hargs w
  refine ⟨y, hy, ?_⟩
  simp only [resolve, hcx, ← hx, Deferred.ofValue, Sem.run_bind, Sem.run_pure, Result.andThen_ok, invoke]
  rw [show (c.args.map ρ).toList.toArray = (#[] ++ c.args.map ρ ++ #[] : Array Value) by apply Array.toList_inj.1; simp] at hrun
  exact hrun
theorem calleeA_run {e : Env} {w : World} {α : Operand → Option AV} {ρ : Operand → Value} (hr : Reads e α ρ) {c : Call} {tg : Tg} {aas : List AV} (h : calleeA P α c = some (tg, aas)) (ty : TypeId) :
    ∃ xs, concL e aas = some xs ∧ Leads P e w tg xs (do let d ← resolve ρ c ty; invoke d.target d.args : Sem Next) := by
  unfold calleeA at h
  split at h
  · rename_i x hcx
    simp only [Option.bind_eq_some_iff] at h
    obtain ⟨v, hv, us, hus, h⟩ := h
    have hx := hr x v hv
    have hargs := argL_map hr hus
    split at h
    · rename_i f first cap
      split at h <;> simp only [reduceCtorEq, Option.some.injEq, Prod.mk.injEq] at h
      rename_i hen
      obtain ⟨rfl, rfl⟩ := h
      simp only [conc, Option.bind_eq_some_iff, Option.map_eq_some_iff] at hx
      obtain ⟨fs, hfs, cs, hcs, hx⟩ := hx
      refine ⟨_, concL_append (concL_append hfs hargs) hcs, ?_⟩
      unfold Leads
      simp only [resolve, hcx, ← hx, Deferred.ofValue, Sem.run_bind, Sem.run_pure, Result.andThen_ok, invoke]
      rw [callFunc_run hen]
      congr 2
      apply Array.toList_inj.1; simp
    · rename_i l
      simp only [Option.some.injEq, Prod.mk.injEq] at h
      obtain ⟨rfl, rfl⟩ := h
      simp only [conc, Option.map_eq_some_iff] at hx
      obtain ⟨p, hp, hx⟩ := hx
      refine ⟨_, hargs, p, hp, fun r hb hl => ?_⟩
      have hgo : (getObj p.1).run P w = .ok (.loop r) w := by simp [getObj, Sem.run, hb]
      have he : (#[] ++ c.args.map ρ : Array Value) = (c.args.map ρ).toList.toArray := by apply Array.toList_inj.1; simp
      have hsz : ¬ (((c.args.map ρ).toList.toArray : Array Value).size ≠ r.params.size) := by simp at hl ⊢; exact hl
      simp only [resolve, hcx, ← hx, Deferred.ofValue, Sem.run_bind, Sem.run_pure, Result.andThen_ok, invoke, he, Instr.yield, Instr.getLoop, hgo, hsz, if_false]
    · cases h
  · rename_i x name hcx
    simp only [Option.bind_eq_some_iff] at h
    obtain ⟨v, hv, us, hus, h⟩ := h
    have hx := hr x v hv
    have hargs := argL_map hr hus
    split at h
    · rename_i t u
      simp only [Option.bind_eq_some_iff] at h
      obtain ⟨inf, hinf, m, hm, h⟩ := h
      split at h
      · rename_i f d hpath hfun hu
        split at h <;> simp only [reduceCtorEq, Option.some.injEq, Prod.mk.injEq] at h
        rename_i hc
        obtain ⟨rfl, rfl⟩ := h
        simp only [Bool.and_eq_true] at hc
        simp only [conc, Option.map_eq_some_iff] at hx
        obtain ⟨y, hy, hx⟩ := hx
        refine ⟨y :: (c.args.map ρ).toList, by simp [concL, hy, hargs], ?_⟩
        unfold Leads
        have hmeth : ∀ n, (method (n + 1) t y name).run P w = .ok (f, y) w := fun n => by
          have hm' : inf.methods.find? (fun x => x.name == name) = some m := hm
          simp only [method, Sem.run_bind, run_typeInfo w hinf, Result.andThen_ok, hm', hpath, follow, Sem.run_pure, hfun]
          cases d <;> first | (exact absurd hc.1 Bool.false_ne_true) | simp [receiverAt, run_underlying hu, Place.get]
        obtain ⟨n, hn⟩ : ∃ n, P.types.size + Made.depth = n + 1 := ⟨P.types.size + Made.depth - 1, by
          have : Made.depth > 0 := by decide
          omega⟩
        simp only [resolve, hcx, ← hx, Sem.run_bind, Sem.run_pure, Result.andThen_ok, invoke]
        have hg0 : (#[Value.iface t y] ++ c.args.map ρ)[0]? = some (Value.iface t y) := by rw [Array.getElem?_append_left (by simp)]; rfl
        simp only [hg0, callMethod, Sem.run_bind, run_program, Result.andThen_ok, hn, hmeth]
        rw [callFunc_run hc.2]
        congr 2
        apply Array.toList_inj.1
        simp [List.take_of_length_le]
      · cases h
    · cases h
  · cases h
end Go.Abs
/- Operations in a frame, one after the other. -/
namespace Go.Abs
variable {P : Program}
def Panics (P : Program) (m : Machine) (b : Frame) (a : Act) (cs : List Frame) (w : World) (e : Env) (v : AV) : Prop :=
  ∃ x, conc e v = some x ∧ ∃ todo, Steps P m (lone { b.atR a todo with mode := .panicking [{ v := x, recovered := false }] } cs w)
def OpEnds (P : Program) (m : Machine) (b : Frame) (ops : Array Oper) (rest : List Nat) (k : List Item) (a : Act) (cs : List Frame) (w : World) (e : Env) : Option AV → Prop
  | none => Steps P m (lone (b.atR a (.inRegion ops rest :: k)) cs w)
  | some v => Panics P m b a cs w e v
theorem OpEnds.of_steps {m m₁ : Machine} {b : Frame} {ops : Array Oper} {rest : List Nat} {k : List Item} {a : Act} {cs : List Frame} {w : World} {e : Env} {p : Option AV} (h : Steps P m m₁) (h' : OpEnds P m₁ b ops rest k a cs w e p) : OpEnds P m b ops rest k a cs w e p := by
  cases p with
  | none => exact h.trans h'
  | some v => obtain ⟨x, hx, todo, hs⟩ := h'; exact ⟨x, hx, todo, h.trans hs⟩
theorem conc_undef (e : Env) : conc e (.tup []) = some undef := by simp [conc, concL, undef]
def XEnds (P : Program) (b : Frame) (cs : List Frame) (a : Act) (ops : Array Oper) (o : Oper) (i : Nat) (rest : List Nat) (k : List Item) (ro : Option Nat) (rc : RC) (e : Env) (s s' : St) (w : World) (r : OR) : Prop :=
    match r with
    | .put v => ∃ e' w', Sim e' s' w' ∧ Goes e s w e' s' w' ∧ ∃ x, conc e' v = some x ∧ Steps P (lone (b.atR a (.inRegion ops (i :: rest) :: k)) cs w) (lone (b.atR (a.put o.dst x) (.inRegion ops rest :: k)) cs w')
    | .pan v => ∃ e' w', Sim e' s' w' ∧ Goes e s w e' s' w' ∧ Panics P (lone (b.atR a (.inRegion ops (i :: rest) :: k)) cs w) b a cs w' e' v
    | .dfr d => s' = s ∧ ro = none ∧ ∃ D, concD e d = some D ∧ (b.roundOf = none → Steps P (lone (b.atR a (.inRegion ops (i :: rest) :: k)) cs w) (lone (b.atR ({ a with defers := D :: a.defers }.put o.dst undef) (.inRegion ops rest :: k)) cs w))
    | .rcv v => s' = s ∧ ro = none ∧ (rc = .pend v ∨ rc = .quiet ∧ v = .nilIface) ∧ (execOp a.eval o).run P w = .ok .recover w
/-- A value comes of it, or a panic. -/
theorem opX_run {call : CallF} (hcall : CallOk P call) {e : Env} {s s' : St} {w : World} {b : Frame} {cs : List Frame} {a : Act} {ops : Array Oper} {o : Oper} {i : Nat} {α : Operand → Option AV} {ro : Option Nat} {rc : RC} {r : OR}
    (h : opX P call o α ro rc s = some (r, s')) (hs : Sim e s w) (hrd : Reads e α a.eval) (hf : Free e s.next s'.next) (ho : ops[i]? = some o) (hw' : Region.wanted o (yielded ops a.tmps) = true) (rest : List Nat) (k : List Item) :
    XEnds P b cs a ops o i rest k ro rc e s s' w r := by
  unfold opX at h
  split at h
  · rename_i v hv
    simp only [Option.some.injEq, Prod.mk.injEq] at h
    obtain ⟨rfl, rfl⟩ := h
    obtain ⟨x, hx, hrun⟩ := pureOp_run (P := P) hrd hv w
    have hnd : ∀ c, o.op ≠ .defer c := fun c hc => by simp [pureOp, hc] at hv
    exact ⟨e, w, hs, Goes.refl .., x, hx, .one (stepA_value ho hw' (by rw [Oper.semAt_eq _ _ _ hnd]; exact hrun))⟩
  split at h
  · rename_i r s1 hv
    simp only [Option.some.injEq, Prod.mk.injEq] at h
    obtain ⟨rfl, rfl⟩ := h
    have hnd : ∀ c, o.op ≠ .defer c := fun c hc => by simp [heapOp, hc] at hv
    obtain ⟨e', w', g1, g2, g3⟩ := heapOp_run (P := P) hs hrd hv hf
    cases r with
    | none =>
      simp only at g3
      exact ⟨e', w', g1, g2, undef, conc_undef e', .one (stepA_skip ho hw' (by rw [Oper.semAt_eq _ _ _ hnd]; exact g3))⟩
    | some v =>
      simp only at g3
      obtain ⟨x, hx, hrun⟩ := g3
      exact ⟨e', w', g1, g2, x, hx, .one (stepA_value ho hw' (by rw [Oper.semAt_eq _ _ _ hnd]; exact hrun))⟩
  split at h
  · rename_i args ats hop
    split at h
    case h_3 => cases h
    · rename_i v
      simp only [Option.some.injEq, Prod.mk.injEq] at h
      obtain ⟨rfl, rfl⟩ := h
      exact ⟨rfl, rfl, .inl rfl, by simp [execOp, hop, resolve, invoke, builtin]⟩
    · simp only [Option.some.injEq, Prod.mk.injEq] at h
      obtain ⟨rfl, rfl⟩ := h
      exact ⟨rfl, rfl, .inr ⟨rfl, rfl⟩, by simp [execOp, hop, resolve, invoke, builtin]⟩
  · rename_i c _ hop
    have hnd0 : ∀ c, o.op ≠ .defer c := fun c hc => by rw [hop] at hc; cases hc
    split at h
    case h_2 =>
      simp only [Option.map_eq_some_iff, Prod.mk.injEq] at h
      obtain ⟨v, hv, rfl, rfl⟩ := h
      obtain ⟨x, hx, hrun⟩ := externC_run (P := P) (w := w) hrd hv o.type
      exact ⟨e, w, hs, Goes.refl .., x, hx, .one (stepA_value ho hw' (by rw [Oper.semAt_eq _ _ _ hnd0]; simp only [execOp, hop]; exact hrun))⟩
    rename_i tg aas hc
    simp only [Option.map_eq_some_iff] at h
    obtain ⟨⟨r1, s1⟩, hr, h⟩ := h
    obtain ⟨xs, hxs, hlead⟩ := calleeA_run (P := P) (w := w) hrd hc o.type
    have hnd : ∀ c, o.op ≠ .defer c := fun c hc => by rw [hop] at hc; cases hc
    simp only [Prod.mk.injEq] at h
    obtain ⟨hr0, rfl⟩ := h
    obtain ⟨e', w', g1, g2, g3⟩ := hcall _ _ _ _ _ hr e w hs hf xs hxs (b.atR a (.inRegion ops (i :: rest) :: k)) cs
    have key : ∃ m, Steps P (lone (b.atR a (.inRegion ops (i :: rest) :: k)) cs w) m ∧ EndsAt P m (b.atR a (.inRegion ops (i :: rest) :: k)) cs e' r1 w' := by
      cases tg with
      | fn f =>
        refine ⟨_, .one (stepA_enter ho hw' ?_), g3⟩
        rw [Oper.semAt_eq _ _ _ hnd]; simp only [execOp, hop]; exact hlead
      | yld l =>
        obtain ⟨q, hq, hl⟩ := hlead
        obtain ⟨rl, h1, h2, h3⟩ := g3 q hq
        refine ⟨_, .one (stepA_round ho hw' ?_), h3⟩
        rw [Oper.semAt_eq _ _ _ hnd]; simp only [execOp, hop]; exact hl rl h1 h2
    obtain ⟨m, hm, hend⟩ := key
    cases r1 with
    | ret v =>
      subst hr0
      obtain ⟨x, hx, hst⟩ := hend
      have hfin : (b.atR a (.inRegion ops (i :: rest) :: k)).finish x = b.atR (a.put o.dst x) (.inRegion ops rest :: k) := by rw [Frame.finish_atR, ho]; rfl
      rw [hfin] at hst
      exact ⟨e', w', g1, g2, x, hx, hm.trans hst⟩
    | pan v =>
      subst hr0
      obtain ⟨x, hx, hst⟩ := hend
      rw [Frame.raise_atR] at hst
      exact ⟨e', w', g1, g2, x, hx, _, hm.trans hst⟩
  · rename_i x hop
    simp only [Option.bind_eq_some_iff] at h
    obtain ⟨v, hv, h⟩ := h
    have hx := hrd x v hv
    have hnd : ∀ c, o.op ≠ .defer c := fun c hc => by rw [hop] at hc; cases hc
    split at h
    case h_2 => cases h
    rename_i t u
    simp only [Option.some.injEq, Prod.mk.injEq] at h
    obtain ⟨rfl, rfl⟩ := h
    refine ⟨e, w, hs, Goes.refl .., _, hx, _, .one (stepA_panic ho hw' ?_)⟩
    simp only [conc, Option.map_eq_some_iff] at hx
    obtain ⟨y, hy, hx⟩ := hx
    rw [Oper.semAt_eq _ _ _ hnd]
    simp [execOp, hop, ← hx, Instr.panic]
  · rename_i c hop
    split at h
    case h_2 => cases h
    rename_i x hcal
    simp only [Option.bind_eq_some_iff] at h
    obtain ⟨v, hv, aas, has, h⟩ := h
    have hx := hrd x v hv
    have hargs := argL_map hrd has
    split at h
    case h_2 => cases h
    rename_i f first cap
    split at h <;> simp only [reduceCtorEq, Option.some.injEq, Prod.mk.injEq] at h
    obtain ⟨rfl, rfl⟩ := h
    simp only [conc, Option.bind_eq_some_iff, Option.map_eq_some_iff] at hx
    obtain ⟨fs, hfs, cps, hcps, hx⟩ := hx
    refine ⟨rfl, rfl, { target := .fn (.func f) cps.toArray, args := fs.toArray ++ c.args.map a.eval }, ?_, fun hb => .one (stepA_defer ho hw' ?_)⟩
    · simp only [concD, concL_append hfs hargs, hcps, Option.bind_some, Option.map_some, Option.some.injEq, Deferred.mk.injEq, true_and]
      apply Array.toList_inj.1; simp
    · rw [hb, Oper.semAt_none]
      simp [execOp, hop, resolve, hcal, ← hx, Deferred.ofValue]
  · cases h
theorem opA_run {call : CallF} (hcall : CallOk P call) {e : Env} {s s' : St} {w : World} {fr fr' : Fr} {b : Frame} {cs0 cs : List Frame} {a : Act} {ops : Array Oper} {o : Oper} {i : Nat} {p : Option AV}
    (h : opA P call ops o fr s = some (p, fr', s')) (hs : Sim e s w) (hfr : FR e fr b cs0 a cs) (hf : Free e s.next s'.next) (ho : ops[i]? = some o) (rest : List Nat) (k : List Item) :
    ∃ e' w' a' cs', Sim e' s' w' ∧ Goes e s w e' s' w' ∧ FR e' fr' b cs0 a' cs' ∧ OpEnds P (lone (b.atR a (.inRegion ops (i :: rest) :: k)) cs w) b ops rest k a' cs' w' e' p := by
  have hrd := hfr.reads
  obtain ⟨ts, hts, hta⟩ := hfr.tm
  have hwe : wantedA ops o fr.tm = Region.wanted o (yielded ops a.tmps) := by rw [hta]; exact wantedA_eq hts
  unfold opA at h
  split at h
  case isFalse hw =>
    simp only [Option.some.injEq, Prod.mk.injEq] at h
    obtain ⟨rfl, rfl, rfl⟩ := h
    refine ⟨e, w, a.put o.dst undef, cs, hs, Goes.refl .., hfr.put o.dst (conc_undef e), ?_⟩
    have := stepR_op_skip (P := P) (b := b) (a := a) (k := k) (cs := cs) (w := w) (ops := ops) (i := i) (rest := rest) (by simp only [ho, Option.map_some, Option.getD_some, ← hwe]; simpa using hw)
    simp only [ho, Option.bind_some] at this
    exact .one this
  rename_i hw
  have hw' : Region.wanted o (yielded ops a.tmps) = true := hwe ▸ hw
  simp only [Option.map_eq_some_iff] at h
  obtain ⟨⟨r, s1⟩, hr, h⟩ := h
  have hs1 : s1 = s' := by cases r <;> simp only [Prod.mk.injEq] at h <;> exact h.2.2
  subst hs1
  have hx := opX_run (b := b) (cs := cs) hcall hr hs hrd hf ho hw' rest k
  cases r with
  | put v =>
    simp only [Prod.mk.injEq] at h
    obtain ⟨rfl, rfl, _⟩ := h
    obtain ⟨e', w', g1, g2, x, hx, hst⟩ := hx
    exact ⟨e', w', a.put o.dst x, cs, g1, g2, (hfr.le g2.le).put o.dst hx, hst⟩
  | pan v =>
    simp only [Prod.mk.injEq] at h
    obtain ⟨rfl, rfl, _⟩ := h
    obtain ⟨e', w', g1, g2, hp⟩ := hx
    exact ⟨e', w', a, cs, g1, g2, hfr.le g2.le, hp⟩
  | dfr d =>
    simp only [Prod.mk.injEq] at h
    obtain ⟨rfl, rfl, _⟩ := h
    obtain ⟨rfl, hro, D, hD, hst⟩ := hx
    obtain ⟨_, hdf, hr4, hr5⟩ := hfr
    simp only [hro] at hr4
    exact ⟨e, w, _, cs, hs, Goes.refl .., ⟨put_tm (a := { a with defers := _ :: a.defers }) hts hta o.dst (conc_undef e), by rw [put_defers]; simp [concDL, hD, hdf], by simp only [hro]; exact hr4, hr5⟩, hst hr4⟩
  | rcv v =>
    simp only [Prod.mk.injEq] at h
    obtain ⟨rfl, rfl, _⟩ := h
    obtain ⟨rfl, hro, hrc, hrun⟩ := hx
    obtain ⟨_, hdf, hr4, hr5⟩ := hfr
    simp only [hro] at hr4
    rcases hrc with hrc | ⟨hrc, rfl⟩
    case inr =>
      simp only [hrc, CsOk] at hr5
      obtain ⟨hkind, c, cr, hc0, hm, hcs⟩ := hr5
      refine ⟨e, w, a.put o.dst .nilIface, cs, hs, Goes.refl .., ⟨put_tm hts hta o.dst (v := .nilIface) rfl, by rw [put_defers]; exact hdf, by simp only [hro]; exact hr4, ?_⟩, ?_⟩
      · simp only [hrc, RC.got, CsOk]; exact ⟨hkind, c, cr, hc0, hm, hcs⟩
      · refine .one (stepA_recover0 ho hw' hrun hr4 ?_)
        rw [hcs, hc0]
        simp [tryRecover, Frame.atR, hkind, hm]
    simp only [hrc, CsOk] at hr5
    obtain ⟨hkind, c, cr, x, hc0, hx, hcs⟩ := hr5
    subst hcs
    simp only [hrc, RC.got]
    refine ⟨e, w, a.put o.dst x, { c with mode := .panicking [{ v := x, recovered := true }] } :: cr, hs, Goes.refl .., ⟨put_tm hts hta o.dst hx, by rw [put_defers]; exact hdf, by simp only [hro]; exact hr4, ?_⟩, ?_⟩
    · exact ⟨hkind, c, cr, x, hc0, hx, rfl⟩
    · refine .one (stepA_recover ho hw' hrun hr4 ?_)
      simp [tryRecover, Frame.atR, hkind]
noncomputable def evOps (P : Program) (call : CallF) (ops : Array Oper) : List Oper → Fr → St → Option (Option AV × Fr × St)
  | [], fr, s => some (none, fr, s)
  | o :: r, fr, s => (opA P call ops o fr s).bind fun x => match x with
    | (some v, fr1, s1) => some (some v, fr1, s1)
    | (none, fr1, s1) => (evOps P call ops r fr1 s1).bind fun y => if s1.next ≤ y.2.2.next then some y else none
theorem evOps_run {call : CallF} (hcall : CallOk P call) {ops : Array Oper} : ∀ (l : List Oper) (n : Nat), (∀ j, l[j]? = ops[n + j]?) → ∀ {e : Env} {s s' : St} {w : World} {fr fr' : Fr} {b : Frame} {cs0 cs : List Frame} {a : Act} {p : Option AV},
    evOps P call ops l fr s = some (p, fr', s') → Sim e s w → FR e fr b cs0 a cs → Free e s.next s'.next → ∀ (k : List Item),
    ∃ e' w' a' cs', Sim e' s' w' ∧ Goes e s w e' s' w' ∧ FR e' fr' b cs0 a' cs' ∧ OpEnds P (lone (b.atR a (.inRegion ops (List.range' n l.length) :: k)) cs w) b ops [] k a' cs' w' e' p
  | [], n, hl, e, s, s', w, fr, fr', b, cs0, cs, a, p, h, hs, hfr, hf, k => by
    simp only [evOps, Option.some.injEq, Prod.mk.injEq] at h
    obtain ⟨rfl, rfl, rfl⟩ := h
    exact ⟨e, w, a, cs, hs, Goes.refl .., hfr, Steps.refl P _⟩
  | o :: l, n, hl, e, s, s', w, fr, fr', b, cs0, cs, a, p, h, hs, hfr, hf, k => by
    have ho : ops[n]? = some o := by simpa using (hl 0).symm
    simp only [evOps, Option.bind_eq_some_iff] at h
    obtain ⟨⟨p1, fr1, s1⟩, h1, h⟩ := h
    simp only [List.length_cons, List.range'_succ]
    cases p1 with
    | some v =>
      simp only [Option.some.injEq, Prod.mk.injEq] at h
      obtain ⟨rfl, rfl, rfl⟩ := h
      exact opA_run hcall h1 hs hfr hf ho _ k
    | none =>
      simp only [Option.bind_eq_some_iff] at h
      obtain ⟨⟨p2, fr2, s2⟩, h2, h⟩ := h
      split at h <;> simp only [reduceCtorEq, Option.some.injEq, Prod.mk.injEq] at h
      rename_i hle
      obtain ⟨rfl, rfl, rfl⟩ := h
      simp only at hle
      obtain ⟨e1, w1, a1, cs1, g1, g2, g3, g4⟩ := opA_run hcall h1 hs hfr (fun m hm1 hm2 => hf m hm1 (Nat.lt_of_lt_of_le hm2 hle)) ho (List.range' (n + 1) l.length) k
      have hf1 : Free e1 s1.next s2.next := g2.free (fun m hm1 hm2 => hf m (Nat.le_trans g2.next hm1) hm2) (Nat.le_refl _)
      obtain ⟨e2, w2, a2, cs2, q1, q2, q3, q4⟩ := evOps_run hcall l (n + 1) (fun j => by have := hl (j + 1); simpa [Nat.add_assoc, Nat.add_comm 1 j] using this) h2 g1 g3 hf1 k
      exact ⟨e2, w2, a2, cs2, q1, g2.trans q2, q3, OpEnds.of_steps g4 q4⟩
end Go.Abs
/- A run on a part of the heap is a run on the whole; what is out of reach may be dropped. -/
namespace Go.Abs
noncomputable def setAll (h : Tr Blk) (g : Tr Blk) (L : List Nat) : Tr Blk := L.foldl (fun h n => h.set n (g.get n)) h
theorem setAll_get (g : Tr Blk) : ∀ (L : List Nat) (h : Tr Blk) (n : Nat), (setAll h g L).get n = if n ∈ L then g.get n else h.get n
  | [], h, n => by simp [setAll]
  | m :: L, h, n => by
    have := setAll_get g L (h.set m (g.get m)) n
    simp only [setAll, List.foldl_cons] at this ⊢
    rw [this, Tr.get_set]
    by_cases h1 : n ∈ L
    · simp [h1]
    · by_cases h2 : n = m
      · subst h2; simp [h1]
      · simp [h1, h2]
/-- 'T' with what a run has changed. -/
noncomputable def St.over (T I : St) : St := { heap := setAll T.heap I.heap I.log, next := I.next, log := I.log ++ T.log }
def SubH (I T : St) : Prop := ∀ n x, I.heap.get n = some x → T.heap.get n = some x
theorem over_sim {e e' : Env} {T I I' : St} {w w' : World} (hT : Sim e T w) (hsub : SubH I T) (hg : Goes e I w e' I' w') (hS : Sim e' I' w') (hd : ∀ n, n ∈ I'.log → T.heap.get n = I.heap.get n) :
    Sim e' (T.over I') w' ∧ (∀ b, b < w.heap.size → Own e' (T.over I') b → Own e T b) ∧ (∀ b, b < w.heap.size → Met e' (T.over I') b → Met e T b) ∧ (∀ b, b < w.heap.size → ¬ Own e T b → w'.heap[b]? = w.heap[b]?) := by
  have ownsub : ∀ b, Own e I b → Own e T b := fun b ⟨n, x, q, h1, h2⟩ => ⟨n, x, q, hsub n x h1, h2⟩
  have metsub : ∀ b, Met e I b → Met e T b := fun b ⟨n, x, q, h1, h2⟩ => ⟨n, x, q, hsub n x h1, h2⟩
  -- each name of the new heap: from the run, or untouched by it
  have part : ∀ n x, (T.over I').heap.get n = some x → I'.heap.get n = some x ∨ (I.heap.get n = none ∧ T.heap.get n = some x) := by
    intro n x hx
    simp only [St.over, setAll_get] at hx
    split at hx
    · exact .inl hx
    · rename_i hn
      cases hi : I.heap.get n with
      | none => exact .inr ⟨rfl, hx⟩
      | some y =>
        have := hsub n y hi
        rw [hx] at this; cases this
        exact .inl ((hg.log n hn).trans hi)
  have aside : ∀ n x b q, I.heap.get n = none → T.heap.get n = some x → e n = some (b, q) → ¬ Own e I b := by
    rintro n x b q hi hx he ⟨m, y, q', hm, hr, hem⟩
    have := hT.inj m n b q' q _ _ (hsub m y hm) hr hx hem he
    subst this; rw [hi] at hm; cases hm
  have key : ∀ n x m y b q q', I.heap.get n = none → T.heap.get n = some x → I'.heap.get m = some y → (x.rw ∨ y.rw) → e' n = some (b, q) → e' m = some (b, q') → False := by
    intro n x m y b q q' hi hx hy hr en em
    obtain ⟨b1, q1, ob, he, _, _⟩ := hT.at_ n x hx
    have := hg.le n _ he
    rw [en] at this; cases this
    have hb := hT.bound n _ _ he
    rcases hr with hr | hr
    · obtain ⟨m0, y0, q0, h1, h2⟩ := hg.met _ hb ⟨m, y, q', hy, em⟩
      have := hT.inj n m0 _ _ _ _ _ hx hr (hsub m0 y0 h1) he h2
      subst this; rw [hi] at h1; cases h1
    · exact aside n x _ _ hi hx he (hg.own _ hb ⟨m, y, q', hy, hr, em⟩)
  refine ⟨⟨?_, ?_, hS.bound⟩, ?_, ?_, fun b hb no => hg.frame b hb fun o => no (ownsub b o)⟩
  · intro n x hx
    rcases part n x hx with h | ⟨hi, h⟩
    · exact hS.at_ n x h
    · obtain ⟨b, q, ob, he, hb, hr⟩ := hT.at_ n x h
      refine ⟨b, q, ob, hg.le _ _ he, ?_, hr.le hg.le⟩
      rw [hg.frame b (hT.bound n b q he) (aside n x b q hi h he)]; exact hb
  · intro n m b q q' x y hx hxr hy en em
    rcases part n x hx with h1 | ⟨i1, h1⟩ <;> rcases part m y hy with h2 | ⟨i2, h2⟩
    · exact hS.inj n m b q q' _ _ h1 hxr h2 en em
    · exact (key m y n x b q' q i2 h2 h1 (.inr hxr) em en).elim
    · exact (key n x m y b q q' i1 h1 h2 (.inl hxr) en em).elim
    · obtain ⟨b1, q1, _, he1, _, _⟩ := hT.at_ n x h1
      obtain ⟨b2, q2, _, he2, _, _⟩ := hT.at_ m y h2
      have a1 := hg.le n _ he1
      have a2 := hg.le m _ he2
      rw [en] at a1; rw [em] at a2; cases a1; cases a2
      exact hT.inj n m b q q' _ _ h1 hxr h2 he1 he2
  · rintro b hb ⟨n, x, q, hx, hr, hn⟩
    rcases part n x hx with h | ⟨hi, h⟩
    · exact ownsub b (hg.own b hb ⟨n, x, q, h, hr, hn⟩)
    · obtain ⟨b1, q1, _, he, _, _⟩ := hT.at_ n x h
      have := hg.le n _ he
      rw [hn] at this; cases this
      exact ⟨n, x, q, h, hr, he⟩
  · rintro b hb ⟨n, x, q, hx, hn⟩
    rcases part n x hx with h | ⟨hi, h⟩
    · exact metsub b (hg.met b hb ⟨n, x, q, h, hn⟩)
    · obtain ⟨b1, q1, _, he, _, _⟩ := hT.at_ n x h
      have := hg.le n _ he
      rw [hn] at this; cases this
      exact ⟨n, x, q, h, he⟩
/-! what is reached -/
mutual
def namesA : AV → List Nat → List Nat
  | .ptr n _, acc | .slice n _ _ _, acc | .opn n _, acc | .yld n, acc | .map n, acc => n :: acc
  | .func _ aas cs, acc => namesL aas (namesL cs acc)
  | .iface _ v, acc => namesA v acc
  | .agg cs, acc | .tup cs, acc => namesL cs acc
  | _, acc => acc
def namesL : List AV → List Nat → List Nat
  | [], acc => acc
  | v :: vs, acc => namesA v (namesL vs acc)
end
def namesM : List (AV × AV × Nat) → List Nat → List Nat
  | [], acc => acc
  | (k, v, _) :: es, acc => namesA k (namesA v (namesM es acc))
def namesB : Option Blk → List Nat → List Nat
  | some (.cells _ _ cs), acc => namesL cs acc
  | some (.map es _), acc => namesM es acc
  | some (.ro _ _ cs), acc => namesL cs acc
  | some (.loop _ _ tm _ _ _ d), acc => d :: namesL tm acc
  | _, acc => acc
noncomputable def reach (h : Tr Blk) (c : Nat) : Nat → List Nat → Tr Unit → List Nat → List Nat
  | 0, _, _, acc => acc
  | _ + 1, [], _, acc => acc
  | k + 1, n :: work, seen, acc => if n < c then reach h c k work seen acc else
    match seen.get n with
    | some _ => reach h c k work seen acc
    | none => reach h c k (namesB (h.get n) work) (seen.set n (some ())) (n :: acc)
def namesR : Rt → List Nat
  | .ret v => namesA v []
  | .pan v => namesA v []
/-- A call's end: what it has made and nobody can reach any more is dropped. -/
noncomputable def collect (s I : St) (r : Rt) : St :=
  let old := I.log.filter fun n => decide (n < s.next) || decide (I.next ≤ n)
  let L := old ++ reach I.heap s.next 100000 (old.foldr (fun n acc => namesB (I.heap.get n) acc) (namesR r)) .leaf []
  { heap := setAll s.heap I.heap L, next := I.next, log := L ++ s.log }
theorem collect_run {e e' : Env} {s I : St} {w w' : World} {r : Rt} (hs : Sim e s w) (hf : Free e s.next I.next) (hg : Goes e { s with log := [] } w e' I w') (hS : Sim e' I w') :
    Sim e' (collect s I r) w' ∧ Goes e s w e' (collect s I r) w' := by
  have hsub : SubH { s with log := [] } s := fun _ _ h => h
  obtain ⟨g1, g2, g2m, g3⟩ := over_sim (T := s) (I := { s with log := [] }) hs hsub hg hS (fun _ _ => rfl)
  have sub : SubH (collect s I r) (s.over I) := by
    intro n x hx
    simp only [collect, St.over, setAll_get, List.mem_append, List.mem_filter] at hx ⊢
    by_cases hn : n ∈ I.log
    · rw [if_pos hn]
      split at hx
      · exact hx
      · rename_i hno
        simp only [not_or, not_and, Bool.or_eq_true, decide_eq_true_eq] at hno
        have h1 := hno.1 hn
        have : e n = none := hf n (by omega) (by omega)
        rw [hs.none_of_free this] at hx; cases hx
    · rw [if_neg hn]
      split at hx
      · have := hg.log n hn
        simp only at this
        rw [this] at hx; exact hx
      · exact hx
  refine ⟨g1.sub sub, ⟨hg.le, hg.rng, ?_, ?_, g3, hg.size, hg.os, hg.tape, hg.output, ?_, ?_, hg.next⟩⟩
  · rintro b hb ⟨n, x, q, hx, hr, hn⟩
    exact g2 b hb ⟨n, x, q, sub n x hx, hr, hn⟩
  · rintro b hb ⟨n, x, q, hx, hn⟩
    exact g2m b hb ⟨n, x, q, sub n x hx, hn⟩
  · intro n hn
    simp only [collect, List.mem_append, not_or] at hn ⊢
    rw [setAll_get, if_neg]
    simp only [List.mem_append, not_or]
    exact hn.1
  · intro n hn
    simp only [collect, List.mem_append]
    exact .inr hn
end Go.Abs

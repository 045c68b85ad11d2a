/- A part of the proof: the walks of the functions that it reaches. TIGHT. -/
import Derived.Test.YticlelgmmonloaaGreatDoorM15
import Derived.Test.YticlelgmmonloaaGreatDoorM9
import Derived.WalkSpells
import Derived.Lib.SliceRun
set_option linter.unusedVariables false
set_option linter.unusedSimpArgs false
namespace Go.Proofs.YticlelgmmonloaaGreatDoor.C
open Go.RowKit Go.Proofs.YticlelgmmonloaaGreatDoorW.PrintWords Go.Proofs.YticlelgmmonloaaGreatDoorW.PrintLast Go.Proofs.YticlelgmmonloaaGreatDoorW.PrintMore
set_option linter.unusedVariables false
set_option linter.unusedSimpArgs false
set_option maxHeartbeats 16000000
set_option maxRecDepth 100000
section
attribute [local go_sem] max2_int min2_int max_two min_two
def q4_Flow.f (a0_0 : Int) (a0_1 : Int) : Option (Bool) := (q4_Cups.f a0_0).bind fun t560 => (if t560 = true then ((q4_Cups.f a0_1).bind fun t561 => (if t561 = true then (some (decide (a0_0 ≤ a0_1))) else (some false))) else (some false))
theorem q4_Flow.calls (a0_0 : Int) (a0_1 : Int) (r : Bool) (w : World) (h : q4_Flow.f a0_0 a0_1 = some r) :
 Calls Tryz.prog 26 #[.agg #[.int .i64 a0_0,.int .i64 a0_1]] w fun e w' => e = .returned (.bool r) ∧ Below w.heap.size w w' := by
 have hu40 := Tryz.underlying40
 have HB := am (Below.refl w.heap.size w)
 have H : ((q4_Cups.f a0_0).bind fun t560 => (if t560 = true then ((q4_Cups.f a0_1).bind fun t561 => (if t561 = true then (some (decide (a0_0 ≤ a0_1))) else (some false))) else (some false))) = some r := h
 clear h
 replace H := obm H
 obtain ⟨t560,A20,H⟩ := H
 replace H : (if t560 = true then ((q4_Cups.f a0_1).bind fun t561 => (if t561 = true then (some (decide (a0_0 ≤ a0_1))) else (some false))) else (some false)) = some r := H
 have A2 := am A20
 clear A20
 by_cases c3 : t560 = true
 case neg =>
  replace c3 := Bool.eq_false_iff.mpr c3
  subst c3
  replace H : (some false) = some r := by rw [if_neg (show ¬ (false = true) by decide)] at H;exact H
  obtain rfl := Option.some.inj H
  go_enter Tryz.func26,Tryz.ntmps26
  go_wp2_with (first | ((with_reducible refine gate_dst (N := 1) rfl ?_);refine box_event ?hg (N := 1) ?hd (cs := #[.int .i64 a0_0,.int .i64 a0_1]) (t := 40) ?hr ?_;(case hd => rfl);(case hg => rfl);(case hr => go_simp;try rfl);intro gb559 hg w10 hbox hb;have BK559 := am (hbox);have GW559 := am (ge_new (by repeat (first | (with_reducible first | exact HB.out | apply below_alloc | apply pw_below_drewN) | exact HB.out)) hg);have GE559 := am (ge_new (by repeat (first | (with_reducible first | exact HB.out | apply below_alloc | apply pw_below_drewN) | exact HB.out)) hg);replace HB := am (below_step (by repeat (first | (with_reducible first | exact HB.out | apply below_alloc | apply pw_below_drewN) | exact HB.out)) hb);clear hb hbox hg;obtain ⟨hcz11_0,hcz11_1⟩ := cO2 BK559.out;have hfz11_0 := blk_frozen BK559.out 0;have hfz11_1 := blk_frozen BK559.out 1) | ((with_reducible refine gate_callee (f := 18) rfl ?_);refine goesL_ (some 5) rfl rfl Tryz.func18 (by kernel_rfl) rfl #[.int .i64 a0_0] rfl (by (try simp only [List.map_toArray,List.map_cons,List.map_nil]);first | done | rfl | (simp only [List.length_drop,List.length_take];rfl)) ?_;(with_reducible refine (q4_Cups.calls a0_0 false _ A2.out).mono ?_);rintro e w' ⟨rfl,⟨nd,rfl⟩⟩;refine ⟨_,rfl,?_⟩))
  go_ret
  exact ⟨by first | rfl | (simp [*] <;> rfl),by repeat (first | (with_reducible first | exact HB.out | refine below_set ?_ GE559.out | apply below_alloc | apply pw_below_drewN) | exact HB.out)⟩
 subst c3
 replace H : ((q4_Cups.f a0_1).bind fun t561 => (if t561 = true then (some (decide (a0_0 ≤ a0_1))) else (some false))) = some r := by rw [if_pos rfl] at H;exact H
 replace H := obm H
 obtain ⟨t561,A40,H⟩ := H
 replace H : (if t561 = true then (some (decide (a0_0 ≤ a0_1))) else (some false)) = some r := H
 have A4 := am A40
 clear A40
 by_cases c5 : t561 = true
 · subst c5
   replace H : (some (decide (a0_0 ≤ a0_1))) = some r := by rw [if_pos rfl] at H;exact H
   obtain rfl := Option.some.inj H
   go_enter Tryz.func26,Tryz.ntmps26
   go_wp2_with (first | ((with_reducible refine gate_dst (N := 1) rfl ?_);refine box_event ?hg (N := 1) ?hd (cs := #[.int .i64 a0_0,.int .i64 a0_1]) (t := 40) ?hr ?_;(case hd => rfl);(case hg => rfl);(case hr => go_simp;try rfl);intro gb559 hg w6 hbox hb;have BK559 := am (hbox);have GW559 := am (ge_new (by repeat (first | (with_reducible first | exact HB.out | apply below_alloc | apply pw_below_drewN) | exact HB.out)) hg);have GE559 := am (ge_new (by repeat (first | (with_reducible first | exact HB.out | apply below_alloc | apply pw_below_drewN) | exact HB.out)) hg);replace HB := am (below_step (by repeat (first | (with_reducible first | exact HB.out | apply below_alloc | apply pw_below_drewN) | exact HB.out)) hb);clear hb hbox hg;obtain ⟨hcz7_0,hcz7_1⟩ := cO2 BK559.out;have hfz7_0 := blk_frozen BK559.out 0;have hfz7_1 := blk_frozen BK559.out 1) | ((with_reducible refine gate_callee (f := 18) rfl ?_);refine goesL_ (some 5) rfl rfl Tryz.func18 (by kernel_rfl) rfl #[.int .i64 a0_0] rfl (by (try simp only [List.map_toArray,List.map_cons,List.map_nil]);first | done | rfl | (simp only [List.length_drop,List.length_take];rfl)) ?_;(with_reducible refine (q4_Cups.calls a0_0 true _ A2.out).mono ?_);rintro e w' ⟨rfl,⟨nd,rfl⟩⟩;refine ⟨_,rfl,?_⟩) | (go_at_call 18;(with_reducible refine (q4_Cups.calls a0_1 true _ A4.out).mono ?_);rintro e w' ⟨rfl,⟨nd,rfl⟩⟩))
   go_ret
   exact ⟨by first | rfl | (simp [*] <;> rfl),by repeat (first | (with_reducible first | exact HB.out | refine below_set ?_ GE559.out | apply below_alloc | apply pw_below_drewN) | exact HB.out)⟩
 · replace c5 := Bool.eq_false_iff.mpr c5
   subst c5
   replace H : (some false) = some r := by rw [if_neg (show ¬ (false = true) by decide)] at H;exact H
   obtain rfl := Option.some.inj H
   go_enter Tryz.func26,Tryz.ntmps26
   go_wp2_with (first | ((with_reducible refine gate_dst (N := 1) rfl ?_);refine box_event ?hg (N := 1) ?hd (cs := #[.int .i64 a0_0,.int .i64 a0_1]) (t := 40) ?hr ?_;(case hd => rfl);(case hg => rfl);(case hr => go_simp;try rfl);intro gb559 hg w8 hbox hb;have BK559 := am (hbox);have GW559 := am (ge_new (by repeat (first | (with_reducible first | exact HB.out | apply below_alloc | apply pw_below_drewN) | exact HB.out)) hg);have GE559 := am (ge_new (by repeat (first | (with_reducible first | exact HB.out | apply below_alloc | apply pw_below_drewN) | exact HB.out)) hg);replace HB := am (below_step (by repeat (first | (with_reducible first | exact HB.out | apply below_alloc | apply pw_below_drewN) | exact HB.out)) hb);clear hb hbox hg;obtain ⟨hcz9_0,hcz9_1⟩ := cO2 BK559.out;have hfz9_0 := blk_frozen BK559.out 0;have hfz9_1 := blk_frozen BK559.out 1) | ((with_reducible refine gate_callee (f := 18) rfl ?_);refine goesL_ (some 5) rfl rfl Tryz.func18 (by kernel_rfl) rfl #[.int .i64 a0_0] rfl (by (try simp only [List.map_toArray,List.map_cons,List.map_nil]);first | done | rfl | (simp only [List.length_drop,List.length_take];rfl)) ?_;(with_reducible refine (q4_Cups.calls a0_0 true _ A2.out).mono ?_);rintro e w' ⟨rfl,⟨nd,rfl⟩⟩;refine ⟨_,rfl,?_⟩) | (go_at_call 18;(with_reducible refine (q4_Cups.calls a0_1 false _ A4.out).mono ?_);rintro e w' ⟨rfl,⟨nd,rfl⟩⟩))
   go_ret
   exact ⟨by first | rfl | (simp [*] <;> rfl),by repeat (first | (with_reducible first | exact HB.out | refine below_set ?_ GE559.out | apply below_alloc | apply pw_below_drewN) | exact HB.out)⟩
def q4_Reading.f (a0_0 : Int) (a0_1 : Int) : Option (Bool) := (q4_Height.f a0_0).bind fun t652 => (if t652 = true then ((q4_Height.f a0_1).bind fun t653 => (if t653 = true then (some (decide (a0_0 ≤ a0_1))) else (some false))) else (some false))
theorem q4_Reading.calls (a0_0 : Int) (a0_1 : Int) (r : Bool) (w : World) (h : q4_Reading.f a0_0 a0_1 = some r) :
 Calls Tryz.prog 31 #[.agg #[.int .i64 a0_0,.int .i64 a0_1]] w fun e w' => e = .returned (.bool r) ∧ Below w.heap.size w w' := by
 have hu40 := Tryz.underlying40
 have HB := am (Below.refl w.heap.size w)
 have H : ((q4_Height.f a0_0).bind fun t652 => (if t652 = true then ((q4_Height.f a0_1).bind fun t653 => (if t653 = true then (some (decide (a0_0 ≤ a0_1))) else (some false))) else (some false))) = some r := h
 clear h
 replace H := obm H
 obtain ⟨t652,A20,H⟩ := H
 replace H : (if t652 = true then ((q4_Height.f a0_1).bind fun t653 => (if t653 = true then (some (decide (a0_0 ≤ a0_1))) else (some false))) else (some false)) = some r := H
 have A2 := am A20
 clear A20
 by_cases c3 : t652 = true
 case neg =>
  replace c3 := Bool.eq_false_iff.mpr c3
  subst c3
  replace H : (some false) = some r := by rw [if_neg (show ¬ (false = true) by decide)] at H;exact H
  obtain rfl := Option.some.inj H
  go_enter Tryz.func31,Tryz.ntmps31
  go_wp2_with (first | ((with_reducible refine gate_dst (N := 1) rfl ?_);refine box_event ?hg (N := 1) ?hd (cs := #[.int .i64 a0_0,.int .i64 a0_1]) (t := 40) ?hr ?_;(case hd => rfl);(case hg => rfl);(case hr => go_simp;try rfl);intro gb651 hg w10 hbox hb;have BK651 := am (hbox);have GW651 := am (ge_new (by repeat (first | (with_reducible first | exact HB.out | apply below_alloc | apply pw_below_drewN) | exact HB.out)) hg);have GE651 := am (ge_new (by repeat (first | (with_reducible first | exact HB.out | apply below_alloc | apply pw_below_drewN) | exact HB.out)) hg);replace HB := am (below_step (by repeat (first | (with_reducible first | exact HB.out | apply below_alloc | apply pw_below_drewN) | exact HB.out)) hb);clear hb hbox hg;obtain ⟨hcz11_0,hcz11_1⟩ := cO2 BK651.out;have hfz11_0 := blk_frozen BK651.out 0;have hfz11_1 := blk_frozen BK651.out 1) | ((with_reducible refine gate_callee (f := 21) rfl ?_);refine goesL_ (some 5) rfl rfl Tryz.func21 (by kernel_rfl) rfl #[.int .i64 a0_0] rfl (by (try simp only [List.map_toArray,List.map_cons,List.map_nil]);first | done | rfl | (simp only [List.length_drop,List.length_take];rfl)) ?_;(with_reducible refine (q4_Height.calls a0_0 false _ A2.out).mono ?_);rintro e w' ⟨rfl,⟨nd,rfl⟩⟩;refine ⟨_,rfl,?_⟩))
  go_ret
  exact ⟨by first | rfl | (simp [*] <;> rfl),by repeat (first | (with_reducible first | exact HB.out | refine below_set ?_ GE651.out | apply below_alloc | apply pw_below_drewN) | exact HB.out)⟩
 subst c3
 replace H : ((q4_Height.f a0_1).bind fun t653 => (if t653 = true then (some (decide (a0_0 ≤ a0_1))) else (some false))) = some r := by rw [if_pos rfl] at H;exact H
 replace H := obm H
 obtain ⟨t653,A40,H⟩ := H
 replace H : (if t653 = true then (some (decide (a0_0 ≤ a0_1))) else (some false)) = some r := H
 have A4 := am A40
 clear A40
 by_cases c5 : t653 = true
 · subst c5
   replace H : (some (decide (a0_0 ≤ a0_1))) = some r := by rw [if_pos rfl] at H;exact H
   obtain rfl := Option.some.inj H
   go_enter Tryz.func31,Tryz.ntmps31
   go_wp2_with (first | ((with_reducible refine gate_dst (N := 1) rfl ?_);refine box_event ?hg (N := 1) ?hd (cs := #[.int .i64 a0_0,.int .i64 a0_1]) (t := 40) ?hr ?_;(case hd => rfl);(case hg => rfl);(case hr => go_simp;try rfl);intro gb651 hg w6 hbox hb;have BK651 := am (hbox);have GW651 := am (ge_new (by repeat (first | (with_reducible first | exact HB.out | apply below_alloc | apply pw_below_drewN) | exact HB.out)) hg);have GE651 := am (ge_new (by repeat (first | (with_reducible first | exact HB.out | apply below_alloc | apply pw_below_drewN) | exact HB.out)) hg);replace HB := am (below_step (by repeat (first | (with_reducible first | exact HB.out | apply below_alloc | apply pw_below_drewN) | exact HB.out)) hb);clear hb hbox hg;obtain ⟨hcz7_0,hcz7_1⟩ := cO2 BK651.out;have hfz7_0 := blk_frozen BK651.out 0;have hfz7_1 := blk_frozen BK651.out 1) | ((with_reducible refine gate_callee (f := 21) rfl ?_);refine goesL_ (some 5) rfl rfl Tryz.func21 (by kernel_rfl) rfl #[.int .i64 a0_0] rfl (by (try simp only [List.map_toArray,List.map_cons,List.map_nil]);first | done | rfl | (simp only [List.length_drop,List.length_take];rfl)) ?_;(with_reducible refine (q4_Height.calls a0_0 true _ A2.out).mono ?_);rintro e w' ⟨rfl,⟨nd,rfl⟩⟩;refine ⟨_,rfl,?_⟩) | (go_at_call 21;(with_reducible refine (q4_Height.calls a0_1 true _ A4.out).mono ?_);rintro e w' ⟨rfl,⟨nd,rfl⟩⟩))
   go_ret
   exact ⟨by first | rfl | (simp [*] <;> rfl),by repeat (first | (with_reducible first | exact HB.out | refine below_set ?_ GE651.out | apply below_alloc | apply pw_below_drewN) | exact HB.out)⟩
 · replace c5 := Bool.eq_false_iff.mpr c5
   subst c5
   replace H : (some false) = some r := by rw [if_neg (show ¬ (false = true) by decide)] at H;exact H
   obtain rfl := Option.some.inj H
   go_enter Tryz.func31,Tryz.ntmps31
   go_wp2_with (first | ((with_reducible refine gate_dst (N := 1) rfl ?_);refine box_event ?hg (N := 1) ?hd (cs := #[.int .i64 a0_0,.int .i64 a0_1]) (t := 40) ?hr ?_;(case hd => rfl);(case hg => rfl);(case hr => go_simp;try rfl);intro gb651 hg w8 hbox hb;have BK651 := am (hbox);have GW651 := am (ge_new (by repeat (first | (with_reducible first | exact HB.out | apply below_alloc | apply pw_below_drewN) | exact HB.out)) hg);have GE651 := am (ge_new (by repeat (first | (with_reducible first | exact HB.out | apply below_alloc | apply pw_below_drewN) | exact HB.out)) hg);replace HB := am (below_step (by repeat (first | (with_reducible first | exact HB.out | apply below_alloc | apply pw_below_drewN) | exact HB.out)) hb);clear hb hbox hg;obtain ⟨hcz9_0,hcz9_1⟩ := cO2 BK651.out;have hfz9_0 := blk_frozen BK651.out 0;have hfz9_1 := blk_frozen BK651.out 1) | ((with_reducible refine gate_callee (f := 21) rfl ?_);refine goesL_ (some 5) rfl rfl Tryz.func21 (by kernel_rfl) rfl #[.int .i64 a0_0] rfl (by (try simp only [List.map_toArray,List.map_cons,List.map_nil]);first | done | rfl | (simp only [List.length_drop,List.length_take];rfl)) ?_;(with_reducible refine (q4_Height.calls a0_0 true _ A2.out).mono ?_);rintro e w' ⟨rfl,⟨nd,rfl⟩⟩;refine ⟨_,rfl,?_⟩) | (go_at_call 21;(with_reducible refine (q4_Height.calls a0_1 false _ A4.out).mono ?_);rintro e w' ⟨rfl,⟨nd,rfl⟩⟩))
   go_ret
   exact ⟨by first | rfl | (simp [*] <;> rfl),by repeat (first | (with_reducible first | exact HB.out | refine below_set ?_ GE651.out | apply below_alloc | apply pw_below_drewN) | exact HB.out)⟩
end
end Go.Proofs.YticlelgmmonloaaGreatDoor.C
namespace Go.Abs
open Go.RowKit Go.Proofs.YticlelgmmonloaaGreatDoorW.PrintWords Go.Proofs.YticlelgmmonloaaGreatDoorW.PrintMore
set_option linter.unusedVariables false
set_option linter.unusedSimpArgs false
set_option maxHeartbeats 16000000
set_option maxRecDepth 100000
noncomputable def capOk (k : Nat) (s : St) (v : AV) : Bool :=
 match v with
 | .nilSlice => true
 | .slice _ _ n c => Nat.ble n c
 | .opn b n => match s.heap.get b with
  | some (.cells _ (some k') cs) => Nat.beq k' k && Nat.ble 1 k && Nat.ble (n * k) cs.length
  | some (.ro _ (some k') cs) => Nat.beq k' k && Nat.ble 1 k && Nat.ble (n * k) cs.length
  | _ => false
 | _ => false
theorem capOk_le {e : Env} {s : St} {w : World} (hs : Sim e s w) {k n m c : Nat} {v : AV} {A : Option Addr} (h : capOk k s v = true) (hx : conc e v = some (.slice A m c)) : m ≤ c := by
 unfold capOk at h
 split at h
 · simp only [conc,Option.some.injEq,Value.slice.injEq] at hx;omega
 · simp only [conc,Option.map_eq_some_iff,Value.slice.injEq] at hx
   obtain ⟨p,_,_,rfl,rfl⟩ := hx
   exact Nat.le_of_ble_eq_true h
 · simp only [conc,Option.map_eq_some_iff,Value.slice.injEq] at hx
   obtain ⟨p,hp,_,rfl,rfl⟩ := hx
   have key : ∀ {n' k' : Nat} {cs : List AV} {vs rest : List Value},(Nat.beq k' k && Nat.ble 1 k && Nat.ble (n' * k) cs.length) = true → concL e cs = some vs → (vs ++ rest).length = p.2 * k' → n' ≤ p.2 := by
    intro n' k' cs vs rest h h1 h2
    simp only [Bool.and_eq_true,Nat.beq_eq,Nat.ble_eq] at h
    obtain ⟨⟨rfl,h3⟩,h4⟩ := h
    rw [List.length_append,concL_length h1] at h2
    exact Nat.le_of_mul_le_mul_right (by omega : n' * k' ≤ p.2 * k') (by omega)
   split at h
   · rename_i hb
     obtain ⟨b,q,ob,he,_,vs,rest,h1,rfl,h2⟩ := hs.at_ _ _ hb
     rw [hp] at he;cases he
     exact key h h1 h2
   · rename_i hb
     obtain ⟨b,q,ob,he,_,vs,rest,h1,rfl,h2⟩ := hs.at_ _ _ hb
     rw [hp] at he;cases he
     exact key h h1 (h2 _ rfl)
   · cases h
 · cases h
theorem first_cells {e : Env} {s : St} {w : World} (hs : Sim e s w) {m n c : Nat} {v : AV} {cs : List AV} {A : Option Addr} (h : firstA m v s = some cs) (hx : conc e v = some (.slice A n c)) (hm : 0 < m) :
 ∃ ad vs,A = some ad ∧ concL e cs = some vs ∧ ∀ i u,vs[i]? = some u → w.cell? (ad.add i) = some u := by
 have cell : ∀ {g o : Nat} {t : TypeId} {vs rest us : List Value},w.heap[g]? = some (.cells (vs ++ rest).toArray t (0,0)) → (∀ i u,us[i]? = some u → vs[o + i]? = some u) → ∀ i u,us[i]? = some u → w.cell? ((⟨g,o,none⟩ : Addr).add i) = some u := by
  intro g o t vs rest us hg hus i u hu
  have h1 := hus i u hu
  have h2 : o + i < vs.length := (List.getElem?_eq_some_iff.1 h1).1
  rw [addr_add]
  simp only [World.cell?,hg]
  simp only [Option.isSome_none,Bool.false_eq_true,if_false,List.getElem?_toArray]
  rw [List.getElem?_append_left h2];exact h1
 unfold firstA at h
 split at h
 · split at h
   · omega
   · cases h
 · simp only [Option.bind_eq_some_iff] at h
   obtain ⟨ds,hg,h⟩ := h
   split at h
   · simp only [Option.some.injEq] at h;subst h
     obtain ⟨g,q,t,vs,rest,he,hb,hvs⟩ := rd_at hs hg
     simp only [conc,he,Option.map_some,Option.some.injEq,Value.slice.injEq] at hx
     obtain ⟨rfl,_,_⟩ := hx
     refine ⟨_,_,rfl,concL_take (concL_drop hvs _) _,cell hb fun i u hu => ?_⟩
     rw [List.getElem?_take] at hu
     split at hu
     · rw [List.getElem?_drop] at hu;exact hu
     · cases hu
   · cases h
 · simp only [Option.bind_eq_some_iff] at h
   obtain ⟨ds,hg,h⟩ := h
   split at h
   · simp only [Option.some.injEq] at h;subst h
     obtain ⟨g,q,t,vs,rest,he,hb,hvs⟩ := rd_at hs hg
     simp only [conc,he,Option.map_some,Option.some.injEq,Value.slice.injEq] at hx
     obtain ⟨rfl,_,_⟩ := hx
     refine ⟨_,_,rfl,concL_take hvs _,cell hb fun i u hu => ?_⟩
     rw [List.getElem?_take] at hu
     split at hu
     · rw [Nat.zero_add];exact hu
     · cases hu
   · cases h
 · cases h
noncomputable def rdG {α : Type} (sz : Nat) (dec : List AV → Option (List α)) (s : St) (v : AV) : Option (List α) :=
 if capOk sz s v then (lenSl v).bind fun n => if Nat.ble n 1000000 then (firstA (n * sz) v s).bind fun cs => (dec cs).bind fun xs => if Nat.beq xs.length n then some xs else none else none else none
theorem rdG_ok {α : Type} {d : Kd α} {e : Env} {s : St} {w : World} (hs : Sim e s w) {dec : List AV → Option (List α)} (hsz : 0 < d.sz)
 (hdec : ∀ cs xs vs,dec cs = some xs → concL e cs = some vs → ∀ j p,xs[j]? = some p → d.K w p ((vs.drop (j * d.sz)).take d.sz))
 {v : AV} {xs : List α} {x : Value} (h : rdG d.sz dec s v = some xs) (hx : conc e v = some x) : ∃ A c,x = .slice A xs.length c ∧ xs.length ≤ c ∧ d.C w A xs.length xs := by
 unfold rdG at h
 split at h
 case isFalse => cases h
 rename_i hcap
 simp only [Option.bind_eq_some_iff] at h
 obtain ⟨n,hn,h⟩ := h
 split at h
 case isFalse => cases h
 rename_i hle
 simp only [Option.bind_eq_some_iff] at h
 obtain ⟨cs,hcs,xs',hxs,h⟩ := h
 split at h
 case isFalse => cases h
 rename_i hlen
 cases h
 have hlen : xs.length = n := Nat.eq_of_beq_eq_true hlen
 subst hlen
 obtain ⟨_,A,c,rfl⟩ := lenSl_run hn hx
 refine ⟨A,c,rfl,capOk_le hs (n := 0) hcap hx,rfl,by have := Nat.le_of_ble_eq_true hle;omega,fun h0 => ?_⟩
 obtain ⟨ad,vs,rfl,hvs,hcell⟩ := first_cells hs hcs hx (Nat.mul_pos h0 hsz)
 refine ⟨ad,rfl,fun j p hj => ⟨_,d.K_len (hdec cs xs vs hxs hvs j p hj),hdec cs xs vs hxs hvs j p hj,fun i u hu => ?_⟩⟩
 rw [List.getElem?_take] at hu
 split at hu
 · rw [List.getElem?_drop] at hu
   exact hcell _ u hu
 · cases hu
def intsA : List AV → Option (List Int)
 | [] => some []
 | .int .i64 a :: l => (intsA l).map (a :: ·)
 | _ => none
theorem intsA_eq : ∀ {cs : List AV} {xs : List Int},intsA cs = some xs → cs = xs.map (.int .i64)
 | [],_,h => by cases h;rfl
 | a :: l,xs,h => by
  unfold intsA at h
  split at h
  · cases ‹_ :: _ = []›
  · rename_i heq;cases heq
    simp only [Option.map_eq_some_iff] at h
    obtain ⟨ys,h1,rfl⟩ := h
    rw [intsA_eq h1];rfl
  · cases h
theorem concL_ints (e : Env) : ∀ xs : List Int,concL e (xs.map (.int .i64)) = some (xs.map (Value.int .i64))
 | [] => rfl
 | x :: xs => by simp [concL,conc,concL_ints e xs]
noncomputable def rdInts : St → AV → Option (List Int) := rdG 1 intsA
theorem rdInts_ok {e : Env} {s : St} {w : World} (hs : Sim e s w) {v : AV} {xs : List Int} {x : Value} (h : rdInts s v = some xs) (hx : conc e v = some x) : ∃ A c,x = .slice A xs.length c ∧ xs.length ≤ c ∧ (Kd.int .i64).C w A xs.length xs := by
 refine rdG_ok (d := Kd.int .i64) hs (by show 0 < 1;omega) (fun cs xs vs h1 h2 j p hj => ?_) h hx
 rw [intsA_eq h1,concL_ints] at h2;cases h2
 show ((xs.map (Value.int .i64)).drop (j * 1)).take 1 = [.int .i64 p]
 have : (xs.map (Value.int .i64))[j * 1]? = some (.int .i64 p) := by simp [hj]
 rw [List.drop_eq_getElem?_toList_append]
 rw [this];rfl
noncomputable def eachA {α : Type} (f : AV → Option α) : List AV → Option (List α)
 | [] => some []
 | v :: l => (f v).bind fun x => (eachA f l).map (x :: ·)
theorem eachA_at {α : Type} {f : AV → Option α} : ∀ {cs : List AV} {xs : List α},eachA f cs = some xs → ∀ {e : Env} {vs : List Value},concL e cs = some vs → ∀ j p,xs[j]? = some p → ∃ v y,f v = some p ∧ conc e v = some y ∧ (vs.drop (j * 1)).take 1 = [y]
 | [],_,h,e,vs,hv,j,p,hj => by cases h;simp at hj
 | c :: cs,xs,h,e,vs,hv,j,p,hj => by
  simp only [eachA,Option.bind_eq_some_iff,Option.map_eq_some_iff] at h
  obtain ⟨x,hx,ys,hys,rfl⟩ := h
  obtain ⟨y,zs,hy,hzs,rfl⟩ := concL_cons hv
  cases j with
  | zero => cases hj;exact ⟨c,y,hx,hy,by simp⟩
  | succ j =>
   obtain ⟨v,y',h1,h2,h3⟩ := eachA_at hys hzs j p (by simpa using hj)
   exact ⟨v,y',h1,h2,by rw [show (j + 1) * 1 = j * 1 + 1 by omega];exact h3⟩
noncomputable def rdLists (s : St) : AV → Option (List (List Int)) := rdG 1 (eachA (rdInts s)) s
theorem rdLists_ok {e : Env} {s : St} {w : World} (hs : Sim e s w) {v : AV} {xs : List (List Int)} {x : Value} (h : rdLists s v = some xs) (hx : conc e v = some x) : ∃ A c,x = .slice A xs.length c ∧ xs.length ≤ c ∧ (Kd.slice 3 (Kd.int .i64)).C w A xs.length xs := by
 refine rdG_ok (d := Kd.slice 3 (Kd.int .i64)) hs (by show 0 < 1;omega) (fun cs xs vs h1 h2 j p hj => ?_) h hx
 obtain ⟨v,y,h3,h4,h5⟩ := eachA_at h1 h2 j p hj
 obtain ⟨A,c,rfl,h6,h7⟩ := rdInts_ok hs h3 h4
 exact ⟨A,c,h5,h6,h7⟩
theorem grow {e : Env} {s : St} {w w' : World} (h : Sim e s w) (hb : Below w.heap.size w w') : Sim e s w' ∧ Goes e s w e s w' := by
 refine ⟨⟨fun n x hx => ?_,h.inj,fun n b q hn => Nat.lt_of_lt_of_le (h.bound n b q hn) hb.size⟩,⟨Env.le.refl e,fun _ h => .inl h,fun _ _ h => h,fun _ _ h => h,fun b hb' _ => hb.block b hb',hb.size,hb.os,hb.tape,hb.output,fun _ _ => rfl,fun _ h => h,Nat.le_refl _⟩⟩
 obtain ⟨b,q,ob,he,hw,hr⟩ := h.at_ n x hx
 exact ⟨b,q,ob,he,(hb.block b (h.bound n b q he)).trans hw,hr⟩
def RwBelow (e : Env) (s : St) (B : Nat) : Prop := ∀ n x b q,s.heap.get n = some x → x.rw → e n = some (b,q) → b < B
theorem addAt {e0 e : Env} {s0 s : St} {w0 w : World} (hg : Goes e0 s0 w0 e s w) (h : Sim e s w) (hr : RwBelow e s w0.heap.size) {g q : Nat} {blk : Blk} {ob : Obj} (hfree : e s.next = none) (h0 : w0.heap.size ≤ g) (hlt : g < w.heap.size)
 (hro : ¬ blk.rw ∨ ∀ n x q,s.heap.get n = some x → e n ≠ some (g,q)) (hob : w.heap[g]? = some ob) (hb : BlkRel (e.upd s.next (g,q)) q blk ob) :
 Sim (e.upd s.next (g,q)) (s.add blk) w ∧ Goes e0 s0 w0 (e.upd s.next (g,q)) (s.add blk) w ∧ (¬ blk.rw → RwBelow (e.upd s.next (g,q)) (s.add blk) w0.heap.size) := by
 have hle := Env.le_upd (g,q) hfree
 refine ⟨⟨?_,?_,?_⟩,⟨hg.le.trans hle,?_,?_,?_,hg.frame,hg.size,hg.os,hg.tape,hg.output,?_,?_,Nat.le_trans hg.next (Nat.le_succ _)⟩,?_⟩
 · intro m x hx
   simp only [St.add,Tr.get_set] at hx
   split at hx
   · subst m;cases hx;exact ⟨g,q,ob,Env.upd_self ..,hob,hb⟩
   · obtain ⟨b',q',ob',he',hb',hr'⟩ := h.at_ m x hx
     exact ⟨b',q',ob',hle _ _ he',hb',hr'.le hle⟩
 · intro m k b' q1 q2 x y hm hmr hk em ek
   simp only [St.add,Tr.get_set] at hm hk
   by_cases e1 : m = s.next <;> by_cases e2 : k = s.next
   · rw [e1,e2]
   · subst e1;rw [Env.upd_self] at em;cases em;rw [Env.upd_ne _ _ e2] at ek;rw [if_neg e2] at hk;rw [if_pos rfl] at hm;cases hm
     rcases hro with hro | hro
     · exact absurd hmr hro
     · exact absurd ek (hro _ _ _ hk)
   · subst e2;rw [Env.upd_self] at ek;cases ek;rw [Env.upd_ne _ _ e1] at em;rw [if_neg e1] at hm
     exact absurd (hr m _ _ _ hm hmr em) (by omega)
   · rw [if_neg e1] at hm;rw [if_neg e2] at hk;rw [Env.upd_ne _ _ e1] at em;rw [Env.upd_ne _ _ e2] at ek
     exact h.inj m k b' q1 q2 _ _ hm hmr hk em ek
 · intro m b' q' hm
   by_cases e1 : m = s.next
   · subst e1;rw [Env.upd_self] at hm;cases hm;exact hlt
   · rw [Env.upd_ne _ _ e1] at hm;exact h.bound m b' q' hm
 · intro m hm
   by_cases e1 : m = s.next
   · exact .inr ⟨by rw [e1];exact hg.next,by simp only [St.add];omega⟩
   · rw [Env.upd_ne _ _ e1] at hm
     rcases hg.rng m hm with h1 | ⟨h1,h2⟩
     · exact .inl h1
     · exact .inr ⟨h1,Nat.lt_succ_of_lt h2⟩
 · rintro b' hb' ⟨m,x,q',hx,hxr,hm⟩
   simp only [St.add,Tr.get_set] at hx
   by_cases e1 : m = s.next
   · subst e1;rw [Env.upd_self] at hm;cases hm;omega
   · rw [if_neg e1] at hx;rw [Env.upd_ne _ _ e1] at hm;exact hg.own b' hb' ⟨m,x,q',hx,hxr,hm⟩
 · rintro b' hb' ⟨m,x,q',hx,hm⟩
   simp only [St.add,Tr.get_set] at hx
   by_cases e1 : m = s.next
   · subst e1;rw [Env.upd_self] at hm;cases hm;omega
   · rw [if_neg e1] at hx;rw [Env.upd_ne _ _ e1] at hm;exact hg.met b' hb' ⟨m,x,q',hx,hm⟩
 · intro m hm
   simp only [St.add,List.mem_cons,not_or] at hm ⊢
   rw [Tr.get_set,if_neg hm.1];exact hg.log m hm.2
 · intro m hm;exact List.mem_cons_of_mem _ (hg.logs m hm)
 · intro hro m x b' q' hx hxr hm
   simp only [St.add,Tr.get_set] at hx
   by_cases e1 : m = s.next
   · subst e1;rw [if_pos rfl] at hx;cases hx;exact absurd hxr hro
   · rw [if_neg e1] at hx;rw [Env.upd_ne _ _ e1] at hm;exact hr m x b' q' hx hxr hm
theorem rwBelow {e : Env} {s : St} {w : World} (h : Sim e s w) : RwBelow e s w.heap.size := fun n x b q _ _ he => h.bound n b q he
theorem endsC {P : Program} {f : FuncId} {xs : Array Value} {w : World} {R : Ending → World → Prop} (h : Calls P f xs w R) (c : Frame) (cs : List Frame) :
 ∃ e w',R e w' ∧ ∀ v,e = .returned v → Steps P (lone (Frame.enter P f xs .normal) (c :: cs) w) (lone (c.finish v) cs w') := by
 obtain ⟨e,w',fr,hR,hc,_,hl⟩ := h (c :: cs)
 refine ⟨e,w',hR,fun v hv => ?_⟩
 subst hv
 exact Steps.trans hc (.one (step_leave_returned hl))
theorem row_of {d : Kd Int} {e base n : Nat} {w : World} {ok : Nat → Prop} {v : Value} {xs : List Int} (h : (Kd.int .i64).R e w base ok v xs) (hx : xs ≠ []) :
 ∃ g cap rest,v = .slice (some ⟨g,0,none⟩) xs.length cap ∧ base ≤ g ∧ g < w.heap.size ∧ w.heap[g]? = some (.cells (xs.map (Value.int .i64) ++ rest).toArray e (0,0)) ∧ (xs.map (Value.int .i64) ++ rest).length = cap * 1 := by
 obtain ⟨_,inner,ho,hr⟩ := h
 obtain ⟨h1,h2⟩ := ho
 rcases h2 with ⟨_,h2⟩ | ⟨g,cap,cur,rfl,h3,h4,h5,h6,h7,h8⟩
 · exact absurd (List.length_eq_zero_iff.1 h2) hx
 have hin : inner = xs.map (Value.int .i64) := by
  apply List.ext_getElem?
  intro j
  have hl : inner.length = xs.length * 1 := h1
  cases hj : xs[j]? with
  | none =>
   rw [List.getElem?_map,hj,List.getElem?_eq_none];· rfl
   have := List.getElem?_eq_none_iff.1 hj;omega
  | some p =>
   have h9 : (inner.drop (j * 1)).take 1 = [.int .i64 p] := hr.2 j p hj
   rw [List.getElem?_map,hj]
   have : ((inner.drop (j * 1)).take 1)[0]? = some (Value.int .i64 p) := by rw [h9];rfl
   rw [List.getElem?_take,if_pos (by omega),List.getElem?_drop] at this
   simpa using this
 have hsz : (Kd.int .i64).sz = 1 := rfl
 rw [hsz] at h7 h8
 refine ⟨g,cap,cur.toList.drop (xs.length * 1),rfl,h3,(Array.getElem?_eq_some_iff.1 h4).1,?_,?_⟩
 · rw [h4,← hin,← h8,List.take_append_drop]
 · rw [← hin,← h8,List.take_append_drop,Array.length_toList];exact h7
noncomputable def addInts (t : TypeId) : List (List Int) → St → List AV × St
 | [],s => ([],s)
 | l :: r,s => let q := addInts t r (s.add (.ro t (some 1) (l.map (.int .i64))));(.opn s.next l.length :: q.1,q.2)
theorem addInts_next (t : TypeId) : ∀ (l : List (List Int)) (s : St),(addInts t l s).2.next = s.next + l.length
 | [],s => rfl
 | x :: r,s => by
  show (addInts t r _).2.next = _
  rw [addInts_next t r];simp only [St.add,List.length_cons];omega
theorem addInts_ok {e0 : Env} {s0 : St} {w0 w : World} {t : TypeId} {ok : Nat → Prop} : ∀ {l : List (List Int)} {vs : List Value} {e : Env} {s : St},Goes e0 s0 w0 e s w → Sim e s w → RwBelow e s w0.heap.size → Free e s.next (s.next + l.length) →
 vs.length = l.length → (∀ (j : Nat) (xs : List Int),l[j]? = some xs → xs ≠ [] ∧ ∃ v,vs[j]? = some v ∧ (Kd.int .i64).R t w w0.heap.size ok v xs) →
 ∃ e',Goes e0 s0 w0 e' (addInts t l s).2 w ∧ Sim e' (addInts t l s).2 w ∧ RwBelow e' (addInts t l s).2 w0.heap.size ∧ e.le e' ∧ concL e' (addInts t l s).1 = some vs ∧ ∀ n,s.next + l.length ≤ n → e n = none → e' n = none
 | [],vs,e,s,hg,hs,hr,hf,hl,h => by
  obtain rfl : vs = [] := List.length_eq_zero_iff.1 hl
  exact ⟨e,hg,hs,hr,Env.le.refl e,rfl,fun _ _ h => h⟩
 | x :: r,vs,e,s,hg,hs,hr,hf,hl,h => by
  obtain ⟨v,vs,rfl⟩ : ∃ v vs',vs = v :: vs' := by cases vs with | nil => simp at hl | cons a b => exact ⟨a,b,rfl⟩
  obtain ⟨hx,v',hv',hR⟩ := h 0 x rfl
  cases hv'
  obtain ⟨g,cap,rest,rfl,h1,h2,h3,h4⟩ := row_of (d := Kd.int .i64) (n := 0) hR hx
  have hfree : e s.next = none := hf _ (Nat.le_refl _) (by simp only [List.length_cons];omega)
  have hle := Env.le_upd (g,cap) hfree
  obtain ⟨q1,q2,q3⟩ := addAt (q := cap) (blk := .ro t (some 1) (x.map (.int .i64))) hg hs hr hfree h1 h2 (.inl fun z => z) h3 ⟨_,rest,concL_ints _ x,rfl,fun m hm => by cases hm;exact h4⟩
  obtain ⟨e',p1,p2,p3,p4,p5,p6⟩ := addInts_ok (l := r) (vs := vs) (s := s.add (.ro t (some 1) (x.map (.int .i64)))) q2 q1 (q3 fun z => z) (fun n a b => by
   rw [Env.upd_ne _ _ (by simp only [St.add] at a;omega)]
   exact hf n (by simp only [St.add] at a;omega) (by simp only [St.add] at b;simp only [List.length_cons];omega)) (by simpa using hl) (fun j xs hj => h (j + 1) xs (by simpa using hj))
  refine ⟨e',p1,p2,p3,hle.trans p4,?_,fun n a b => p6 n (by simp only [St.add,List.length_cons] at a ⊢;omega) ?_⟩
  · simp only [addInts,concL,conc,p4 _ _ (Env.upd_self e s.next (g,cap)),Option.map_some,Option.bind_some,p5]
  · rw [Env.upd_ne _ _ (by simp only [List.length_cons] at a;omega)];exact b
end Go.Abs
namespace Go.Proofs.YticlelgmmonloaaGreatDoor.C
open Go.RowKit Go.Proofs.YticlelgmmonloaaGreatDoorW.PrintWords Go.Proofs.YticlelgmmonloaaGreatDoorW.PrintLast Go.Proofs.YticlelgmmonloaaGreatDoorW.PrintMore
set_option linter.unusedVariables false
set_option linter.unusedSimpArgs false
set_option maxHeartbeats 16000000
set_option maxRecDepth 100000
theorem infoC_int : (Tryz.prog.info? 3).map (fun i => (i.zero,i.size,i.bytes)) = some (some (.int .i64 0),1,8) := by kernel_rfl
def sl_Clone_int.f (l0 : List Int) : Option (List Int) := if l0.length < 17592186044416 then some l0 else none
theorem sl_Clone_int.calls (A0 : Option Addr) (c0 : Nat) (l0 : List Int) (r : List Int) (w : World) (hr0 : Kd.C (Kd.int .i64) w A0 l0.length l0) (hc0 : l0.length ≤ c0) (h : sl_Clone_int.f l0 = some r) :
 Calls Tryz.prog 98 #[.slice A0 l0.length c0] w fun e w' => ∃ v0_ : Value,e = .returned v0_ ∧ Kd.R (Kd.int .i64) 3 w' w.heap.size (fun _ => True) v0_ r ∧ Below w.heap.size w w' := by
 unfold sl_Clone_int.f at h
 by_cases hl : l0.length < 17592186044416
 case neg =>
  rw [if_neg hl] at h;cases h
 rw [if_pos hl] at h
 obtain rfl := Option.some.inj h
 clear h
 have hq : ∀ (W : World) (a : Option Addr) (n c : Nat),(binOp .eql 30 (.slice a n c) (.slice none 0 0)).run Tryz.prog W = .ok (.bool a.isNone) W := fun W a n c => Lib.run_eql_slice_nil W 30 3 a n c 0 0 Tryz.underlying30
 cases A0 with
 | none =>
  have hn : l0 = [] := by
   rcases Nat.eq_zero_or_pos l0.length with h0 | h0
   · exact List.eq_nil_of_length_eq_zero h0
   · obtain ⟨ad,e,_⟩ := hr0.2.2 h0;cases e
  subst hn
  clear hr0 hc0 hl
  go_enter Tryz.func98,Tryz.ntmps98
  go_wp2
  go_ret
  exact ⟨_,rfl,Kd.R_nil _ _ _ _ _,Below.refl _ _⟩
 | some ad =>
  have HR := am (kC hr0 (below_alloc (Below.refl _ w) (.cells #[] 3)))
  have HL := am hl
  clear hr0 hc0 hl
  have HO := am (show Kd.R (Kd.int .i64) 3 (w.alloc (.cells #[] 3)) w.heap.size (fun _ => True) (.slice (some ⟨w.heap.size,0,none⟩) 0 0) [] from ⟨fun _ _ => trivial,[],by simpa using World.ownsRow_lit (base := w.heap.size) (e := 3) (size := ((Kd.int .i64)).sz) w #[] 0 (Nat.le_refl _) (by simp [maxLen]) (by simp),Reps.none _ _⟩)
  go_enter Tryz.func98,Tryz.ntmps98
  go_wp2_with ((with_reducible refine gate_builtin (b := .append) (xs := #[.tmp 5,.tmp 6]) rfl ?_);at_builtin;refine Kd.R_append_rows (Kd.int .i64) (Rr := ((Kd.int .i64)).K (w.alloc (.cells #[] 3))) (w0 := w) w.heap.size rfl (.tmp 5) (.tmp 6) 30 3 (.int .i64 0) 8 rfl Tryz.underlying30 infoC_int rfl (by decide) (by omega) (.slice (some ⟨w.heap.size,0,none⟩) 0 0) [] l0 (some ad) l0.length c0 (fun _ => True) (fun _ => False) rfl rfl HO.out HR.out (fun _ _ hk => hk) (fun _ h => h.elim) (fun _ _ => trivial) (below_alloc (Below.refl _ w) _) (by simp) (by have := HL.out;simp;omega) ?_;intro v1 w1 ho hb hg hat)
  go_ret
  exact ⟨v1,rfl,ho,hb⟩
section
attribute [local go_sem] max2_int min2_int max_two min_two
def gf_shares.l0 : Nat → Int → List Int → Int → List Int → Int → Int → Option (List Int × Int)
 | 0,_,_,_,_,_,_ => none
 | k + 1,x1,x7,x8,x33,x34,x35 => if x35 < x34 then (if 0 ≤ x35 then (if x35 < (x33.length : Int) then (if x35 < (x7.length : Int) then (gf_shares.l0 k x1 (x7.set (x35 : Int).toNat (wrap64 ((rd x7 x35) + (mn x8 (wrap64 ((rd x33 x35) - (rd x7 x35))))))) (wrap64 (x8 - (mn x8 (wrap64 ((rd x33 x35) - (rd x7 x35)))))) x33 x34 (wrap64 (x35 + 1))) else (none)) else (none)) else (none)) else ((ca_sum.f k x7).bind fun t162 => (some (x7,wrap64 (x1 - t162))))
def gf_shares.f (k : Nat) (l0_0 : List (S126)) (a0_1 : Int) (l0_2 : List (S64)) (a0_3 : Int) (a0_4 : Int) (l0_5 : List (List Int)) (a1 : Int) : Option (List Int × Int) := (gf_level.f l0_0 a0_1 l0_2 a0_3 a0_4 l0_5 a1).bind fun t151 => (if 0 ≤ t151 then (if t151 < (l0_5.length : Int) then ((sl_Clone_int.f (rd_L3 l0_5 t151)).bind fun t153 => (if t151 < 40 then ((gf_out.f l0_0 a0_1 l0_2 a0_3 a0_4 l0_5 t151).bind fun t156 => (if 0 ≤ (wrap64 (t151 + 1)) then (if (wrap64 (t151 + 1)) < (l0_5.length : Int) then (gf_shares.l0 k a1 t153 (wrap64 (a1 - t156)) (rd_L3 l0_5 (wrap64 (t151 + 1))) ((rd_L3 l0_5 (wrap64 (t151 + 1))).length : Int) 0) else (none)) else (none))) else ((ca_sum.f k t153).bind fun t163 => (some (t153,wrap64 (a1 - t163)))))) else (none)) else (none))
theorem gf_shares.calls (k : Nat) (A0_0 : Option Addr) (c0_0 : Nat) (l0_0 : List (S126)) (a0_1 : Int) (A0_2 : Option Addr) (c0_2 : Nat) (l0_2 : List (S64)) (a0_3 : Int) (a0_4 : Int) (A0_5 : Option Addr) (c0_5 : Nat) (l0_5 : List (List Int)) (a1 : Int) (r1 : List Int) (r2 : Int) (w : World) (hr0_0 : Kd.C k126 w A0_0 l0_0.length l0_0) (hc0_0 : l0_0.length ≤ c0_0) (hr0_2 : Kd.C k64 w A0_2 l0_2.length l0_2) (hc0_2 : l0_2.length ≤ c0_2) (hr0_5 : Kd.C (Kd.slice 3 (Kd.int .i64)) w A0_5 l0_5.length l0_5) (hc0_5 : l0_5.length ≤ c0_5) (h : gf_shares.f k l0_0 a0_1 l0_2 a0_3 a0_4 l0_5 a1 = some (r1,r2)) :
 Calls Tryz.prog 60 #[.agg #[.slice A0_0 l0_0.length c0_0,.int .i64 a0_1,.slice A0_2 l0_2.length c0_2,.int .i64 a0_3,.int .i64 a0_4,.slice A0_5 l0_5.length c0_5],.int .i64 a1] w fun e w' => ∃ v0_ : Value,e = .returned (.tuple #[v0_,.int .i64 r2]) ∧ Kd.R (Kd.int .i64) 3 w' w.heap.size (fun _ => True) v0_ r1 ∧ Below w.heap.size w w' := by
 have hu99 := Tryz.underlying99
 have HR0_0 := am hr0_0
 have HC0_0 := am hc0_0
 clear hr0_0 hc0_0
 have HR0_2 := am hr0_2
 have HC0_2 := am hc0_2
 clear hr0_2 hc0_2
 have HR0_5 := am hr0_5
 have HC0_5 := am hc0_5
 clear hr0_5 hc0_5
 have HB := am (Below.refl w.heap.size w)
 have H : ((gf_level.f l0_0 a0_1 l0_2 a0_3 a0_4 l0_5 a1).bind fun t151 => (if 0 ≤ t151 then (if t151 < (l0_5.length : Int) then ((sl_Clone_int.f (rd_L3 l0_5 t151)).bind fun t153 => (if t151 < 40 then ((gf_out.f l0_0 a0_1 l0_2 a0_3 a0_4 l0_5 t151).bind fun t156 => (if 0 ≤ (wrap64 (t151 + 1)) then (if (wrap64 (t151 + 1)) < (l0_5.length : Int) then (gf_shares.l0 k a1 t153 (wrap64 (a1 - t156)) (rd_L3 l0_5 (wrap64 (t151 + 1))) ((rd_L3 l0_5 (wrap64 (t151 + 1))).length : Int) 0) else (none)) else (none))) else ((ca_sum.f k t153).bind fun t163 => (some (t153,wrap64 (a1 - t163)))))) else (none)) else (none))) = some (r1,r2) := h
 clear h
 replace H := obm H
 obtain ⟨t151,A30,H⟩ := H
 replace H : (if 0 ≤ t151 then (if t151 < (l0_5.length : Int) then ((sl_Clone_int.f (rd_L3 l0_5 t151)).bind fun t153 => (if t151 < 40 then ((gf_out.f l0_0 a0_1 l0_2 a0_3 a0_4 l0_5 t151).bind fun t156 => (if 0 ≤ (wrap64 (t151 + 1)) then (if (wrap64 (t151 + 1)) < (l0_5.length : Int) then (gf_shares.l0 k a1 t153 (wrap64 (a1 - t156)) (rd_L3 l0_5 (wrap64 (t151 + 1))) ((rd_L3 l0_5 (wrap64 (t151 + 1))).length : Int) 0) else (none)) else (none))) else ((ca_sum.f k t153).bind fun t163 => (some (t153,wrap64 (a1 - t163)))))) else (none)) else (none)) = some (r1,r2) := H
 have A3 := am A30
 clear A30
 by_cases c4 : 0 ≤ t151
 case neg =>
  rw [if_neg c4] at H
  exact absurd H (by simp)
 rw [if_pos c4] at H
 have c4b0 : decide (0 ≤ t151) = true := decide_eq_true c4
 clear c4
 by_cases c5 : t151 < (l0_5.length : Int)
 case neg =>
  rw [if_neg c5] at H
  exact absurd H (by simp)
 rw [if_pos c5] at H
 have c5b0 : decide (t151 < (l0_5.length : Int)) = true := decide_eq_true c5
 clear c5
 replace H := obm H
 obtain ⟨t153,A60,H⟩ := H
 replace H : (if t151 < 40 then ((gf_out.f l0_0 a0_1 l0_2 a0_3 a0_4 l0_5 t151).bind fun t156 => (if 0 ≤ (wrap64 (t151 + 1)) then (if (wrap64 (t151 + 1)) < (l0_5.length : Int) then (gf_shares.l0 k a1 t153 (wrap64 (a1 - t156)) (rd_L3 l0_5 (wrap64 (t151 + 1))) ((rd_L3 l0_5 (wrap64 (t151 + 1))).length : Int) 0) else (none)) else (none))) else ((ca_sum.f k t153).bind fun t163 => (some (t153,wrap64 (a1 - t163))))) = some (r1,r2) := H
 have A6 := am A60
 clear A60
 by_cases c7 : t151 < 40
 case neg =>
  rw [if_neg c7] at H
  have c7b0 : decide (t151 < 40) = false := decide_eq_false c7
  clear c7
  replace H := obm H
  obtain ⟨t163,A310,H⟩ := H
  replace H : (some (t153,wrap64 (a1 - t163))) = some (r1,r2) := H
  have A31 := am A310
  clear A310
  simp only [Option.some.injEq,Prod.mk.injEq] at H
  obtain ⟨rfl,rfl⟩ := H
  go_enter Tryz.func60,Tryz.ntmps60
  go_wp2_with (first | ((with_reducible refine gate_dst (N := 2) rfl ?_);refine box_event ?hg (N := 2) ?hd (cs := #[.slice A0_0 l0_0.length c0_0,.int .i64 a0_1,.slice A0_2 l0_2.length c0_2,.int .i64 a0_3,.int .i64 a0_4,.slice A0_5 l0_5.length c0_5]) (t := 99) ?hr ?_;(case hd => rfl);(case hg => rfl);(case hr => go_simp;try rfl);intro gb150 hg w32 hbox hb;have BK150 := am (hbox);have GW150 := am (ge_new (by repeat (first | (with_reducible first | exact HB.out | apply below_alloc | apply pw_below_drewN) | exact HB.out)) hg);have GE150 := am (ge_new (by repeat (first | (with_reducible first | exact HB.out | apply below_alloc | apply pw_below_drewN) | exact HB.out)) hg);replace HB := am (below_step (by repeat (first | (with_reducible first | exact HB.out | apply below_alloc | apply pw_below_drewN) | exact HB.out)) hb);clear hb hbox hg;obtain ⟨hcz33_0,hcz33_1,hcz33_2,hcz33_3,hcz33_4,hcz33_5⟩ := cO6 BK150.out;have hfz33_0 := blk_frozen BK150.out 0;have hfz33_1 := blk_frozen BK150.out 1;have hfz33_2 := blk_frozen BK150.out 2;have hfz33_3 := blk_frozen BK150.out 3;have hfz33_4 := blk_frozen BK150.out 4;have hfz33_5 := blk_frozen BK150.out 5) | ((with_reducible refine gate_callee (f := 67) rfl ?_);refine goesL_ (some 14) rfl rfl Tryz.func67 (by kernel_rfl) rfl #[.agg #[.slice A0_0 l0_0.length c0_0,.int .i64 a0_1,.slice A0_2 l0_2.length c0_2,.int .i64 a0_3,.int .i64 a0_4,.slice A0_5 l0_5.length c0_5],.int .i64 a1] rfl (by (try simp only [List.map_toArray,List.map_cons,List.map_nil]);first | done | rfl | (simp only [List.length_drop,List.length_take];rfl)) ?_;(with_reducible refine (gf_level.calls _ _ l0_0 a0_1 _ _ l0_2 a0_3 a0_4 _ _ l0_5 a1 t151 _ ?side1 ?side2 ?side3 ?side4 ?side5 ?side6 A3.out).mono ?_);(case side1 => repeat (first | exact (kC HR0_0.out HB.out) | (with_reducible refine Kd.C_alloc ?_ _) | (with_reducible refine Kd.C_drewN ?_ _) | (with_reducible refine Kd.C_drew ?_)));(case side2 => exact HC0_0.out);(case side3 => repeat (first | exact (kC HR0_2.out HB.out) | (with_reducible refine Kd.C_alloc ?_ _) | (with_reducible refine Kd.C_drewN ?_ _) | (with_reducible refine Kd.C_drew ?_)));(case side4 => exact HC0_2.out);(case side5 => repeat (first | exact (kC HR0_5.out HB.out) | (with_reducible refine Kd.C_alloc ?_ _) | (with_reducible refine Kd.C_drewN ?_ _) | (with_reducible refine Kd.C_drew ?_)));(case side6 => exact HC0_5.out);rintro e w34 ⟨rfl,hb⟩;refine ⟨_,rfl,?_⟩;replace BK150 := am (blk_below (g := gb150) (o := .cells #[.slice A0_0 l0_0.length c0_0,.int .i64 a0_1,.slice A0_2 l0_2.length c0_2,.int .i64 a0_3,.int .i64 a0_4,.slice A0_5 l0_5.length c0_5] 99 (0,0)) (by (with_reducible repeat (first | refine blk_drewN ?_ _ | refine blk_drew ?_ | refine blk_alloc ?_ _));exact BK150.out) hb);replace HB := am (below_step (by repeat (first | (with_reducible first | exact HB.out | refine below_set ?_ GE150.out | apply below_alloc | apply pw_below_drewN) | exact HB.out)) hb);(try clear hb);(try clear hb2);(try clear hk);(try clear hi);obtain ⟨hcz35_0,hcz35_1,hcz35_2,hcz35_3,hcz35_4,hcz35_5⟩ := cO6 BK150.out;have hfz35_0 := blk_frozen BK150.out 0;have hfz35_1 := blk_frozen BK150.out 1;have hfz35_2 := blk_frozen BK150.out 2;have hfz35_3 := blk_frozen BK150.out 3;have hfz35_4 := blk_frozen BK150.out 4;have hfz35_5 := blk_frozen BK150.out 5;have p152 : 0 ≤ (t151 : Int) := of_decide_eq_true (by assumption);have q152 : t151 < (l0_5.length : Int) := of_decide_eq_true (by assumption);obtain ⟨ad152,A152_0,c152_0,e152,hx152_0,hl152_0,hi152_0⟩ := at_L3 HR0_5.out t151 p152 q152;cases e152;replace hx152_0 := (HB.out.cell (wbl hx152_0)).trans hx152_0;have HR152_0 := am hi152_0;have HC152_0 := am hl152_0;clear hi152_0 hl152_0;replace p152 := eq_true p152;replace q152 := eq_true q152) | ((with_reducible refine gate_callee (f := 98) rfl ?_);refine goesL_ (some 20) rfl rfl Tryz.func98 (by kernel_rfl) rfl #[.slice A152_0 (rd_L3 l0_5 t151).length c152_0] rfl (by (try simp only [List.map_toArray,List.map_cons,List.map_nil]);first | done | rfl | (simp only [List.length_drop,List.length_take];rfl)) ?_;(with_reducible refine (sl_Clone_int.calls _ _ (rd_L3 l0_5 t151) t153 _ ?side1 ?side2 A6.out).mono ?_);(case side1 => repeat (first | exact (kC HR152_0.out HB.out) | (with_reducible refine Kd.C_alloc ?_ _) | (with_reducible refine Kd.C_drewN ?_ _) | (with_reducible refine Kd.C_drew ?_)));(case side2 => exact HC152_0.out);rintro e w36 ⟨v154,rfl,ho0,hb⟩;refine ⟨_,rfl,?_⟩;have HO155 := am (Kd.R_lower ho0 (below_size (by repeat (first | (with_reducible first | exact HB.out | refine below_set ?_ GE150.out | apply below_alloc | apply pw_below_drewN) | exact HB.out))));replace BK150 := am (blk_below (g := gb150) (o := .cells #[.slice A0_0 l0_0.length c0_0,.int .i64 a0_1,.slice A0_2 l0_2.length c0_2,.int .i64 a0_3,.int .i64 a0_4,.slice (some ad152) l0_5.length c0_5] 99 (0,0)) (by (with_reducible repeat (first | refine blk_drewN ?_ _ | refine blk_drew ?_ | refine blk_alloc ?_ _));exact BK150.out) hb);replace HB := am (below_step (by repeat (first | (with_reducible first | exact HB.out | refine below_set ?_ GE150.out | apply below_alloc | apply pw_below_drewN) | exact HB.out)) hb);(try clear hb);(try clear hb2);(try clear hk);(try clear hi);(try clear ho0);obtain ⟨Ao37,co37,eo37⟩ := Kd.R_slice HO155.out;subst eo37) | ((with_reducible refine gate_callee (f := 100) rfl ?_);refine goesL_ (some 62) rfl rfl Tryz.func100 (by kernel_rfl) rfl #[.slice Ao37 t153.length co37] rfl (by (try simp only [List.map_toArray,List.map_cons,List.map_nil]);first | done | rfl | (simp only [List.length_drop,List.length_take];rfl)) ?_;(with_reducible refine (ca_sum.calls k _ _ t153 t163 _ ?side1 ?side2 A31.out).mono ?_);(case side1 => repeat (first | exact (Kd.R_reads' HO155.out).2.2 | (with_reducible refine Kd.C_alloc ?_ _) | (with_reducible refine Kd.C_drewN ?_ _) | (with_reducible refine Kd.C_drew ?_)));(case side2 => exact (Kd.R_reads' HO155.out).2.1);rintro e w' ⟨rfl,⟨nd,rfl⟩⟩;refine ⟨_,rfl,?_⟩))
  go_ret2
  exact ⟨_,by first | rfl | (simp [*] <;> rfl),by (with_reducible repeat (first | apply Kd.R_alloc | apply Kd.R_drewN | apply Kd.R_drew));exact HO155.out,by repeat (first | (with_reducible first | exact HB.out | refine below_set ?_ GE150.out | apply below_alloc | apply pw_below_drewN) | exact HB.out)⟩
 rw [if_pos c7] at H
 have c7b0 : decide (t151 < 40) = true := decide_eq_true c7
 clear c7
 replace H := obm H
 obtain ⟨t156,A80,H⟩ := H
 replace H : (if 0 ≤ (wrap64 (t151 + 1)) then (if (wrap64 (t151 + 1)) < (l0_5.length : Int) then (gf_shares.l0 k a1 t153 (wrap64 (a1 - t156)) (rd_L3 l0_5 (wrap64 (t151 + 1))) ((rd_L3 l0_5 (wrap64 (t151 + 1))).length : Int) 0) else (none)) else (none)) = some (r1,r2) := H
 have A8 := am A80
 clear A80
 obtain ⟨ji9,hji9⟩ : ∃ j_ : Int,(wrap64 (t151 + 1)) = j_ := ⟨_,rfl⟩
 replace H : (if 0 ≤ (ji9) then (if (ji9) < (l0_5.length : Int) then (gf_shares.l0 k a1 t153 (wrap64 (a1 - t156)) (rd_L3 l0_5 (ji9)) ((rd_L3 l0_5 (ji9)).length : Int) 0) else (none)) else (none)) = some (r1,r2) := by first | (rw [hji9] at H;exact H) | (simp only [hji9] at H ⊢;exact H)
 (try rw [hji9] at A3)
 (try rw [hji9] at A6)
 (try rw [hji9] at A8)
 have hji9w : (IntKind.i64.wrap (t151 + 1)) = ji9 := (i64_w _).trans hji9
 by_cases c10 : 0 ≤ (ji9)
 case neg =>
  rw [if_neg c10] at H
  exact absurd H (by simp)
 rw [if_pos c10] at H
 have c10b0 : decide (0 ≤ (ji9)) = true := decide_eq_true c10
 clear c10
 by_cases c11 : (ji9) < (l0_5.length : Int)
 case neg =>
  rw [if_neg c11] at H
  exact absurd H (by simp)
 rw [if_pos c11] at H
 have c11b0 : decide ((ji9) < (l0_5.length : Int)) = true := decide_eq_true c11
 clear c11
 replace H' := am H
 go_enter Tryz.func60,Tryz.ntmps60
 go_wp2_with (first | ((with_reducible refine gate_dst (N := 2) rfl ?_);refine box_event ?hg (N := 2) ?hd (cs := #[.slice A0_0 l0_0.length c0_0,.int .i64 a0_1,.slice A0_2 l0_2.length c0_2,.int .i64 a0_3,.int .i64 a0_4,.slice A0_5 l0_5.length c0_5]) (t := 99) ?hr ?_;(case hd => rfl);(case hg => rfl);(case hr => go_simp;try rfl);intro gb150 hg w12 hbox hb;have BK150 := am (hbox);have GW150 := am (ge_new (by repeat (first | (with_reducible first | exact HB.out | apply below_alloc | apply pw_below_drewN) | exact HB.out)) hg);have GE150 := am (ge_new (by repeat (first | (with_reducible first | exact HB.out | apply below_alloc | apply pw_below_drewN) | exact HB.out)) hg);replace HB := am (below_step (by repeat (first | (with_reducible first | exact HB.out | apply below_alloc | apply pw_below_drewN) | exact HB.out)) hb);clear hb hbox hg;obtain ⟨hcz13_0,hcz13_1,hcz13_2,hcz13_3,hcz13_4,hcz13_5⟩ := cO6 BK150.out;have hfz13_0 := blk_frozen BK150.out 0;have hfz13_1 := blk_frozen BK150.out 1;have hfz13_2 := blk_frozen BK150.out 2;have hfz13_3 := blk_frozen BK150.out 3;have hfz13_4 := blk_frozen BK150.out 4;have hfz13_5 := blk_frozen BK150.out 5) | ((with_reducible refine gate_callee (f := 67) rfl ?_);refine goesL_ (some 14) rfl rfl Tryz.func67 (by kernel_rfl) rfl #[.agg #[.slice A0_0 l0_0.length c0_0,.int .i64 a0_1,.slice A0_2 l0_2.length c0_2,.int .i64 a0_3,.int .i64 a0_4,.slice A0_5 l0_5.length c0_5],.int .i64 a1] rfl (by (try simp only [List.map_toArray,List.map_cons,List.map_nil]);first | done | rfl | (simp only [List.length_drop,List.length_take];rfl)) ?_;(with_reducible refine (gf_level.calls _ _ l0_0 a0_1 _ _ l0_2 a0_3 a0_4 _ _ l0_5 a1 t151 _ ?side1 ?side2 ?side3 ?side4 ?side5 ?side6 A3.out).mono ?_);(case side1 => repeat (first | exact (kC HR0_0.out HB.out) | (with_reducible refine Kd.C_alloc ?_ _) | (with_reducible refine Kd.C_drewN ?_ _) | (with_reducible refine Kd.C_drew ?_)));(case side2 => exact HC0_0.out);(case side3 => repeat (first | exact (kC HR0_2.out HB.out) | (with_reducible refine Kd.C_alloc ?_ _) | (with_reducible refine Kd.C_drewN ?_ _) | (with_reducible refine Kd.C_drew ?_)));(case side4 => exact HC0_2.out);(case side5 => repeat (first | exact (kC HR0_5.out HB.out) | (with_reducible refine Kd.C_alloc ?_ _) | (with_reducible refine Kd.C_drewN ?_ _) | (with_reducible refine Kd.C_drew ?_)));(case side6 => exact HC0_5.out);rintro e w14 ⟨rfl,hb⟩;refine ⟨_,rfl,?_⟩;replace BK150 := am (blk_below (g := gb150) (o := .cells #[.slice A0_0 l0_0.length c0_0,.int .i64 a0_1,.slice A0_2 l0_2.length c0_2,.int .i64 a0_3,.int .i64 a0_4,.slice A0_5 l0_5.length c0_5] 99 (0,0)) (by (with_reducible repeat (first | refine blk_drewN ?_ _ | refine blk_drew ?_ | refine blk_alloc ?_ _));exact BK150.out) hb);replace HB := am (below_step (by repeat (first | (with_reducible first | exact HB.out | refine below_set ?_ GE150.out | apply below_alloc | apply pw_below_drewN) | exact HB.out)) hb);(try clear hb);(try clear hb2);(try clear hk);(try clear hi);obtain ⟨hcz15_0,hcz15_1,hcz15_2,hcz15_3,hcz15_4,hcz15_5⟩ := cO6 BK150.out;have hfz15_0 := blk_frozen BK150.out 0;have hfz15_1 := blk_frozen BK150.out 1;have hfz15_2 := blk_frozen BK150.out 2;have hfz15_3 := blk_frozen BK150.out 3;have hfz15_4 := blk_frozen BK150.out 4;have hfz15_5 := blk_frozen BK150.out 5;have p152 : 0 ≤ (t151 : Int) := of_decide_eq_true (by assumption);have q152 : t151 < (l0_5.length : Int) := of_decide_eq_true (by assumption);obtain ⟨ad152,A152_0,c152_0,e152,hx152_0,hl152_0,hi152_0⟩ := at_L3 HR0_5.out t151 p152 q152;cases e152;replace hx152_0 := (HB.out.cell (wbl hx152_0)).trans hx152_0;have HR152_0 := am hi152_0;have HC152_0 := am hl152_0;clear hi152_0 hl152_0;replace p152 := eq_true p152;replace q152 := eq_true q152) | ((with_reducible refine gate_callee (f := 98) rfl ?_);refine goesL_ (some 20) rfl rfl Tryz.func98 (by kernel_rfl) rfl #[.slice A152_0 (rd_L3 l0_5 t151).length c152_0] rfl (by (try simp only [List.map_toArray,List.map_cons,List.map_nil]);first | done | rfl | (simp only [List.length_drop,List.length_take];rfl)) ?_;(with_reducible refine (sl_Clone_int.calls _ _ (rd_L3 l0_5 t151) t153 _ ?side1 ?side2 A6.out).mono ?_);(case side1 => repeat (first | exact (kC HR152_0.out HB.out) | (with_reducible refine Kd.C_alloc ?_ _) | (with_reducible refine Kd.C_drewN ?_ _) | (with_reducible refine Kd.C_drew ?_)));(case side2 => exact HC152_0.out);rintro e w16 ⟨v154,rfl,ho0,hb⟩;refine ⟨_,rfl,?_⟩;have HO155 := am (Kd.R_lower ho0 (below_size (by repeat (first | (with_reducible first | exact HB.out | refine below_set ?_ GE150.out | apply below_alloc | apply pw_below_drewN) | exact HB.out))));replace BK150 := am (blk_below (g := gb150) (o := .cells #[.slice A0_0 l0_0.length c0_0,.int .i64 a0_1,.slice A0_2 l0_2.length c0_2,.int .i64 a0_3,.int .i64 a0_4,.slice (some ad152) l0_5.length c0_5] 99 (0,0)) (by (with_reducible repeat (first | refine blk_drewN ?_ _ | refine blk_drew ?_ | refine blk_alloc ?_ _));exact BK150.out) hb);replace HB := am (below_step (by repeat (first | (with_reducible first | exact HB.out | refine below_set ?_ GE150.out | apply below_alloc | apply pw_below_drewN) | exact HB.out)) hb);(try clear hb);(try clear hb2);(try clear hk);(try clear hi);(try clear ho0);obtain ⟨hcz17_0,hcz17_1,hcz17_2,hcz17_3,hcz17_4,hcz17_5⟩ := cO6 BK150.out;have hfz17_0 := blk_frozen BK150.out 0;have hfz17_1 := blk_frozen BK150.out 1;have hfz17_2 := blk_frozen BK150.out 2;have hfz17_3 := blk_frozen BK150.out 3;have hfz17_4 := blk_frozen BK150.out 4;have hfz17_5 := blk_frozen BK150.out 5) | ((with_reducible refine gate_callee (f := 99) rfl ?_);refine goesL_ (some 26) rfl rfl Tryz.func99 (by kernel_rfl) rfl #[.agg #[.slice A0_0 l0_0.length c0_0,.int .i64 a0_1,.slice A0_2 l0_2.length c0_2,.int .i64 a0_3,.int .i64 a0_4,.slice (some ad152) l0_5.length c0_5],.int .i64 t151] rfl (by (try simp only [List.map_toArray,List.map_cons,List.map_nil]);first | done | rfl | (simp only [List.length_drop,List.length_take];rfl)) ?_;(with_reducible refine (gf_out.calls _ _ l0_0 a0_1 _ _ l0_2 a0_3 a0_4 _ _ l0_5 t151 t156 _ ?side1 ?side2 ?side3 ?side4 ?side5 ?side6 A8.out).mono ?_);(case side1 => repeat (first | exact (kC HR0_0.out HB.out) | (with_reducible refine Kd.C_alloc ?_ _) | (with_reducible refine Kd.C_drewN ?_ _) | (with_reducible refine Kd.C_drew ?_)));(case side2 => exact HC0_0.out);(case side3 => repeat (first | exact (kC HR0_2.out HB.out) | (with_reducible refine Kd.C_alloc ?_ _) | (with_reducible refine Kd.C_drewN ?_ _) | (with_reducible refine Kd.C_drew ?_)));(case side4 => exact HC0_2.out);(case side5 => repeat (first | exact (kC HR0_5.out HB.out) | (with_reducible refine Kd.C_alloc ?_ _) | (with_reducible refine Kd.C_drewN ?_ _) | (with_reducible refine Kd.C_drew ?_)));(case side6 => exact HC0_5.out);rintro e w18 ⟨rfl,hb⟩;refine ⟨_,rfl,?_⟩;replace HO155 := am (Kd.R_below (by (with_reducible repeat (first | apply Kd.R_alloc | apply Kd.R_drewN | apply Kd.R_drew));exact HO155.out) hb);replace BK150 := am (blk_below (g := gb150) (o := .cells #[.slice A0_0 l0_0.length c0_0,.int .i64 a0_1,.slice A0_2 l0_2.length c0_2,.int .i64 a0_3,.int .i64 a0_4,.slice (some ad152) l0_5.length c0_5] 99 (0,0)) (by (with_reducible repeat (first | refine blk_drewN ?_ _ | refine blk_drew ?_ | refine blk_alloc ?_ _));exact BK150.out) hb);replace HB := am (below_step (by repeat (first | (with_reducible first | exact HB.out | refine below_set ?_ GE150.out | apply below_alloc | apply pw_below_drewN) | exact HB.out)) hb);(try clear hb);(try clear hb2);(try clear hk);(try clear hi);obtain ⟨hcz19_0,hcz19_1,hcz19_2,hcz19_3,hcz19_4,hcz19_5⟩ := cO6 BK150.out;have hfz19_0 := blk_frozen BK150.out 0;have hfz19_1 := blk_frozen BK150.out 1;have hfz19_2 := blk_frozen BK150.out 2;have hfz19_3 := blk_frozen BK150.out 3;have hfz19_4 := blk_frozen BK150.out 4;have hfz19_5 := blk_frozen BK150.out 5;have p157 : 0 ≤ ((ji9) : Int) := of_decide_eq_true (by assumption);have q157 : (ji9) < (l0_5.length : Int) := of_decide_eq_true (by assumption);obtain ⟨ad157,A157_0,c157_0,e157,hx157_0,hl157_0,hi157_0⟩ := at_L3 HR0_5.out (ji9) p157 q157;obtain rfl : ad152 = ad157 := (by injection e157);replace hx157_0 := (HB.out.cell (wbl hx157_0)).trans hx157_0;have HR157_0 := am hi157_0;have HC157_0 := am hl157_0;clear hi157_0 hl157_0;replace p157 := eq_true p157;replace q157 := eq_true q157))
 go_loopg [8,35] k (fun kq v8 v35 w' => ∃ (x7_1 : List Int) (x8_1 : Int) (x35_1 : Int),v8 = .int .i64 x8_1 ∧ v35 = .int .i64 x35_1 ∧ Aside0 (gf_shares.l0 kq a1 x7_1 x8_1 (rd_L3 l0_5 (ji9)) ((rd_L3 l0_5 (ji9)).length : Int) x35_1 = some (r1,r2)) ∧ Aside0 (kq ≤ k) ∧ Aside0 (Kd.R (Kd.int .i64) 3 w' w.heap.size (fun _ => True) v154 x7_1) ∧ Aside0 (w'.heap[gb150]? = some (.cells #[(.slice A0_0 l0_0.length c0_0),.int .i64 a0_1,(.slice A0_2 l0_2.length c0_2),.int .i64 a0_3,.int .i64 a0_4,(.slice (some ad152) l0_5.length c0_5)] 99 (0,0))) ∧ Aside0 (Below w.heap.size w w'))
 case atStart => exact ⟨(t153),(wrap64 (a1 - t156)),(0),(by first | rfl | (simp;done) | (simp [*];done)),(by first | rfl | (simp;done) | (simp [*];done)),H',⟨Nat.le_refl _⟩,⟨by (with_reducible repeat (first | apply Kd.R_alloc | apply Kd.R_drewN | apply Kd.R_drew));exact HO155.out⟩,⟨by (with_reducible repeat (first | refine blk_drewN ?_ _ | refine blk_drew ?_ | refine blk_alloc ?_ _));exact BK150.out⟩,⟨by repeat (first | (with_reducible first | exact HB.out | refine below_set ?_ GE150.out | apply below_alloc | apply pw_below_drewN) | exact HB.out)⟩⟩
 case round =>
  clear H'
  try clear c1
  try clear p1
  try clear q1
  try clear hx1
  try clear p2
  try clear c4
  try clear c4b0
  try clear c5
  try clear c5b0
  try clear c6
  try clear p6
  try clear c7
  try clear c7b0
  try clear c9
  try clear c10
  try clear c10b0
  try clear c11
  try clear c11b0
  try clear c15
  try clear p15
  try clear q15
  try clear hx15
  try clear hcz13_0
  try clear hcz13_1
  try clear hcz13_2
  try clear hcz13_3
  try clear hcz13_4
  try clear hcz13_5
  try clear hcz15_0
  try clear hcz15_1
  try clear hcz15_2
  try clear hcz15_3
  try clear hcz15_4
  try clear hcz15_5
  try clear hcz17_0
  try clear hcz17_1
  try clear hcz17_2
  try clear hcz17_3
  try clear hcz17_4
  try clear hcz17_5
  try clear hcz19_0
  try clear hcz19_1
  try clear hcz19_2
  try clear hcz19_3
  try clear hcz19_4
  try clear hcz19_5
  try clear hfz13_0
  try clear hfz13_1
  try clear hfz13_2
  try clear hfz13_3
  try clear hfz13_4
  try clear hfz13_5
  try clear hfz15_0
  try clear hfz15_1
  try clear hfz15_2
  try clear hfz15_3
  try clear hfz15_4
  try clear hfz15_5
  try clear hfz17_0
  try clear hfz17_1
  try clear hfz17_2
  try clear hfz17_3
  try clear hfz17_4
  try clear hfz17_5
  try clear hfz19_0
  try clear hfz19_1
  try clear hfz19_2
  try clear hfz19_3
  try clear hfz19_4
  try clear hfz19_5
  try clear hx152_0
  try clear hx157_0
  try clear p152
  try clear p157
  try clear q152
  try clear q157
  obtain ⟨x7_1,x8_1,x35_1,rfl,rfl,HA,HK1,HO_7,BK150,HB⟩ := hrel
  cases gk with
  | zero => exact absurd HA.out (by simp [gf_shares.l0])
  | succ k1 =>
   have H := HA.out
   clear HA
   simp only [gf_shares.l0] at H
   by_cases c20 : x35_1 < ((rd_L3 l0_5 (ji9)).length : Int)
   case neg =>
    rw [if_neg c20] at H
    have c20b0 : decide (x35_1 < ((rd_L3 l0_5 (ji9)).length : Int)) = false := decide_eq_false c20
    clear c20
    replace H := obm H
    obtain ⟨t162,A290,H⟩ := H
    replace H : (some (x7_1,wrap64 (a1 - t162))) = some (r1,r2) := H
    have A29 := am A290
    clear A290
    simp only [Option.some.injEq,Prod.mk.injEq] at H
    obtain ⟨rfl,rfl⟩ := H
    obtain ⟨Ao30,co30,eo30⟩ := Kd.R_slice HO_7.out
    subst eo30
    go_wp2_with (first | ((with_reducible refine gate_callee (f := 100) rfl ?_);refine goesL_ (some 62) rfl rfl Tryz.func100 (by kernel_rfl) rfl #[.slice Ao30 x7_1.length co30] rfl (by (try simp only [List.map_toArray,List.map_cons,List.map_nil]);first | done | rfl | (simp only [List.length_drop,List.length_take];rfl)) ?_;(with_reducible refine (ca_sum.calls k1 _ _ x7_1 t162 _ ?side1 ?side2 A29.out).mono ?_);(case side1 => repeat (first | exact (Kd.R_reads' HO_7.out).2.2 | (with_reducible refine Kd.C_alloc ?_ _) | (with_reducible refine Kd.C_drewN ?_ _) | (with_reducible refine Kd.C_drew ?_)));(case side2 => exact (Kd.R_reads' HO_7.out).2.1);rintro e w' ⟨rfl,⟨nd,rfl⟩⟩;refine ⟨_,rfl,?_⟩))
    go_ret2
    exact ⟨_,by first | rfl | (simp [errW_none,errW_some] <;> rfl) | (simp only [← hji9];first | rfl | (simp [errW_none,errW_some] <;> rfl)) | (simp [*,errW_none,errW_some] <;> rfl),by (with_reducible repeat (first | apply Kd.R_alloc | apply Kd.R_drewN | apply Kd.R_drew));exact HO_7.out,by repeat (first | (with_reducible first | exact HB.out | refine below_set ?_ GE150.out | apply below_alloc | apply pw_below_drewN) | exact HB.out)⟩
   rw [if_pos c20] at H
   have c20b0 : decide (x35_1 < ((rd_L3 l0_5 (ji9)).length : Int)) = true := decide_eq_true c20
   clear c20
   by_cases c21 : 0 ≤ x35_1
   case neg =>
    rw [if_neg c21] at H
    exact absurd H (by simp)
   rw [if_pos c21] at H
   have c21b0 : decide (0 ≤ x35_1) = true := decide_eq_true c21
   clear c21
   by_cases c22 : x35_1 < ((rd_L3 l0_5 (ji9)).length : Int)
   case neg =>
    rw [if_neg c22] at H
    exact absurd H (by simp)
   rw [if_pos c22] at H
   have c22b0 : decide (x35_1 < ((rd_L3 l0_5 (ji9)).length : Int)) = true := decide_eq_true c22
   clear c22
   by_cases c23 : x35_1 < (x7_1.length : Int)
   case neg =>
    rw [if_neg c23] at H
    exact absurd H (by simp)
   rw [if_pos c23] at H
   have c23b0 : decide (x35_1 < (x7_1.length : Int)) = true := decide_eq_true c23
   clear c23
   obtain ⟨ji24,hji24⟩ : ∃ j_ : Int,(mn x8_1 (wrap64 ((rd (rd_L3 l0_5 (ji9)) x35_1) - (rd x7_1 x35_1)))) = j_ := ⟨_,rfl⟩
   replace H : (gf_shares.l0 k1 a1 (x7_1.set (x35_1 : Int).toNat (wrap64 ((rd x7_1 x35_1) + (ji24)))) (wrap64 (x8_1 - (ji24))) (rd_L3 l0_5 (ji9)) ((rd_L3 l0_5 (ji9)).length : Int) (wrap64 (x35_1 + 1))) = some (r1,r2) := by first | (rw [hji24] at H;exact H) | (simp only [hji24] at H ⊢;exact H)
   have hji24_ : (if (wrap64 ((rd (rd_L3 l0_5 (ji9)) x35_1) - (rd x7_1 x35_1))) < x8_1 then (wrap64 ((rd (rd_L3 l0_5 (ji9)) x35_1) - (rd x7_1 x35_1))) else x8_1) = ji24 := hji24
   obtain ⟨y161,hy161⟩ : ∃ y_ : List Int,y_ = (x7_1.set (x35_1 : Int).toNat (wrap64 ((rd x7_1 x35_1) + (ji24)))) := ⟨_,rfl⟩
   replace H : (gf_shares.l0 k1 a1 y161 (wrap64 (x8_1 - (ji24))) (rd_L3 l0_5 (ji9)) ((rd_L3 l0_5 (ji9)).length : Int) (wrap64 (x35_1 + 1))) = some (r1,r2) := by first | (rw [hy161];with_reducible exact H) | (have H2_ := (Option.bind_some _ _).symm.trans H;rw [hy161];with_reducible exact H2_) | (have H2_ := (Option.bind_some _ _).symm.trans H;with_reducible exact H2_) | with_reducible exact H | (rw [hy161];exact H) | exact H
   have Ny161 := am hy161
   clear hy161
   replace H' := am H
   have p158 : 0 ≤ (x35_1 : Int) := of_decide_eq_true (by assumption)
   have q158 : x35_1 < ((rd_L3 l0_5 (ji9)).length : Int) := of_decide_eq_true (by assumption)
   obtain ⟨ad158,e158,hx158_0⟩ := Kd.at_int HR157_0.out x35_1 p158 q158
   cases e158
   replace hx158_0 := (HB.out.cell (wbl hx158_0)).trans hx158_0
   replace p158 := eq_true p158
   replace q158 := eq_true q158
   obtain ⟨Ao26,co26,eo26⟩ := Kd.R_slice HO_7.out
   subst eo26
   have p159 : 0 ≤ (x35_1 : Int) := of_decide_eq_true (by assumption)
   have q159 : x35_1 < (x7_1.length : Int) := of_decide_eq_true (by assumption)
   obtain ⟨ad159,e159,hx159_0⟩ := Kd.at_int (Kd.R_reads' HO_7.out).2.2 x35_1 p159 q159
   cases e159
   replace p159 := eq_true p159
   replace q159 := eq_true q159
   have p160 : 0 ≤ (x35_1 : Int) := of_decide_eq_true (by assumption)
   have q160 : x35_1 < (x7_1.length : Int) := of_decide_eq_true (by assumption)
   obtain ⟨ad160,e160,hx160_0⟩ := Kd.at_int (Kd.R_reads' HO_7.out).2.2 x35_1 p160 q160
   obtain rfl : ad159 = ad160 := (by injection e160)
   replace p160 := eq_true p160
   replace q160 := eq_true q160
   have p25 : 0 ≤ (x35_1 : Int) := of_decide_eq_true (by assumption)
   have q25 : (x35_1 : Int) < ((x7_1.length : Int) : Int) := of_decide_eq_true (by assumption)
   obtain ⟨go25,co25,eo25,gb25,gl25,cl25,HG25⟩ := Kd.R_form HO_7.out (by omega)
   (first | cases eo25 | (injection eo25 with ea_ en_ ec_;(first | subst ea_ | (injection ea_ with ea_;subst ea_));subst ec_;clear en_))
   have GB25 := am gb25
   have GG25 := am HG25
   clear gb25 gl25 HG25
   (first | simp only [add_plain] at hx159_0 | skip)
   (first | simp only [add_plain] at hx160_0 | skip)
   obtain ⟨hx25_0,hf25_0⟩ := Kd.R_celln 0 HO_7.out (x35_1 : Int) p25 q25
   replace p25 := eq_true p25
   replace q25 := eq_true q25
   have HP27 := Kd.R_putg HO_7.out (x35_1 : Int) (wrap64 ((rd x7_1 x35_1) + (ji24)))
   go_wp2_with (first | ((with_reducible refine gate_store (t := 3) (p := 54) rfl ?_);refine store_event (t := 3) (p := 54) (v := ?vo_w28) (w1 := (wr.setCell ⟨go25,(x35_1 : Int).toNat,none⟩ (.int .i64 (wrap64 ((rd x7_1 x35_1) + (ji24)))))) ?hg ?ho ?hn ?hr ?_;(case ho => rfl);(case hg => rfl);(case hn => rfl);(case hr => go_simp;try rfl);intro w28 hw;have hg : wr.grownBy w28 (some go25) := (by rw [hw];exact HP27.2);have hp_ : Kd.R (Kd.int .i64) 3 w28 w.heap.size (fun _ => True) (.slice (some ⟨go25,0,none⟩) x7_1.length co26) y161 := (by rw [hw,Ny161.out];exact HP27.1);clear HP27;have n0_ := am (hp_);have n1_ := am (blk_grown (g := gb150) (o := .cells #[.slice A0_0 l0_0.length c0_0,.int .i64 a0_1,.slice A0_2 l0_2.length c0_2,.int .i64 a0_3,.int .i64 a0_4,.slice (some ad152) l0_5.length c0_5] 99 (0,0)) (by (with_reducible repeat (first | refine blk_drewN ?_ _ | refine blk_drew ?_ | refine blk_alloc ?_ _));exact BK150.out) hg (Kd.R_ne HO_7.out BK150.out (by decide)));have n2_ := am ((by rw [hw];exact below_set (HB.out) GB25.out : Below w.heap.size w w28));clear HO_7;clear BK150;clear HB;have HO_7 := n0_;have BK150 := n1_;have HB := n2_;clear n0_ n1_ n2_;clear hg hw hp_))
   go_roundg k1
   case measure => have := HK1.out;omega
   case rel => exact ⟨(y161),(wrap64 (x8_1 - (ji24))),(wrap64 (x35_1 + 1)),(by first | rfl | (simp;done) | (simp only [← hji24] <;> (first | rfl | simp)) | (simp [*];done)),(by first | rfl | (simp;done) | (simp [*];done)),H',⟨by have := HK1.out;omega⟩,⟨by (with_reducible repeat (first | apply Kd.R_alloc | apply Kd.R_drewN | apply Kd.R_drew));exact HO_7.out⟩,⟨by (with_reducible repeat (first | refine blk_drewN ?_ _ | refine blk_drew ?_ | refine blk_alloc ?_ _));exact BK150.out⟩,⟨by repeat (first | (with_reducible first | exact HB.out | refine below_set ?_ GE150.out | apply below_alloc | apply pw_below_drewN) | exact HB.out)⟩⟩
end
end Go.Proofs.YticlelgmmonloaaGreatDoor.C

/- A part of the proof: the walks of the functions that it reaches. TIGHT. -/
import Derived.Test.YtnnmnhpeblhiiaaGreatDoorM15
import Derived.Tactics2
import Derived.Defers
import Derived.Recover
import Derived.Laws.Pointers
import Derived.Lib.Hide
import Derived.WideKeyRuns
import Derived.BigQuiet
import Derived.Laws.EntriesVeiled
set_option linter.unusedVariables false
set_option linter.unusedSimpArgs false
namespace Go.Proofs.YtnnmnhpeblhiiaaGreatDoor.C
open Go.RowKit Go.Proofs.YtnnmnhpeblhiiaaGreatDoorW.PrintWords Go.Proofs.YtnnmnhpeblhiiaaGreatDoorW.PrintLast Go.Proofs.YtnnmnhpeblhiiaaGreatDoorW.PrintMore
set_option linter.unusedVariables false
set_option linter.unusedSimpArgs false
set_option maxHeartbeats 16000000
set_option maxRecDepth 100000
section
attribute [local go_sem] max2_int min2_int max_two min_two
def q4_Flow.f (a0_0 : Int) (a0_1 : Int) : Option (Bool) := (q4_Cups.f a0_0).bind fun t608 => (if t608 = true then ((q4_Cups.f a0_1).bind fun t609 => (if t609 = true then (some (decide (a0_0 ≤ a0_1))) else (some false))) else (some false))
theorem q4_Flow.calls (a0_0 : Int) (a0_1 : Int) (r : Bool) (w : World) (h : q4_Flow.f a0_0 a0_1 = some r) :
 Calls Tryz.prog 38 #[.agg #[.int .i64 a0_0,.int .i64 a0_1]] w fun e w' => e = .returned (.bool r) ∧ Below w.heap.size w w' := by
 have hu54 := Tryz.underlying54
 have HB := am (Below.refl w.heap.size w)
 have H : ((q4_Cups.f a0_0).bind fun t608 => (if t608 = true then ((q4_Cups.f a0_1).bind fun t609 => (if t609 = true then (some (decide (a0_0 ≤ a0_1))) else (some false))) else (some false))) = some r := h
 clear h
 replace H := obm H
 obtain ⟨t608,A20,H⟩ := H
 replace H : (if t608 = true then ((q4_Cups.f a0_1).bind fun t609 => (if t609 = true then (some (decide (a0_0 ≤ a0_1))) else (some false))) else (some false)) = some r := H
 have A2 := am A20
 clear A20
 by_cases c3 : t608 = true
 case neg =>
  replace c3 := Bool.eq_false_iff.mpr c3
  subst c3
  replace H : (some false) = some r := by rw [if_neg (show ¬ (false = true) by decide)] at H;exact H
  obtain rfl := Option.some.inj H
  go_enter Tryz.func38,Tryz.ntmps38
  go_wp2_with (first | ((refine gate_dst (N := 1) rfl ?_);refine box_event rfl (N := 1) rfl (cs := #[.int .i64 a0_0,.int .i64 a0_1]) (t := 54) ?hr ?_;(case hr => go_simp;try rfl);intro gb607 hg w10 hbox hb;have BK607 := am (hbox);have GW607 := am (ge_new (HB.out) hg);have GE607 := am (ge_new (HB.out) hg);replace HB := am (below_step (HB.out) hb);clear hb hbox hg;obtain ⟨hcz11_0,hcz11_1⟩ := cO2 BK607.out) | ((with_reducible refine gate_callee (f := 17) rfl ?_);refine goesL_ (some 5) rfl rfl Tryz.func17 (by kernel_rfl) rfl #[.int .i64 a0_0] rfl (by (try simp only [List.map_toArray,List.map_cons,List.map_nil]);first | done | rfl | (simp only [List.length_drop,List.length_take];rfl)) ?_;(with_reducible refine (q4_Cups.calls a0_0 false _ A2.out).mono ?_);rintro e w' ⟨rfl,⟨nd,rfl⟩⟩;refine ⟨_,rfl,?_⟩))
  go_ret
  exact ⟨by first | rfl | (simp [*] <;> rfl),pw_below_drewN HB.out _⟩
 subst c3
 replace H : ((q4_Cups.f a0_1).bind fun t609 => (if t609 = true then (some (decide (a0_0 ≤ a0_1))) else (some false))) = some r := by rw [if_pos rfl] at H;exact H
 replace H := obm H
 obtain ⟨t609,A40,H⟩ := H
 replace H : (if t609 = true then (some (decide (a0_0 ≤ a0_1))) else (some false)) = some r := H
 have A4 := am A40
 clear A40
 by_cases c5 : t609 = true
 · subst c5
   replace H : (some (decide (a0_0 ≤ a0_1))) = some r := by rw [if_pos rfl] at H;exact H
   obtain rfl := Option.some.inj H
   go_enter Tryz.func38,Tryz.ntmps38
   go_wp2_with (first | ((refine gate_dst (N := 1) rfl ?_);refine box_event rfl (N := 1) rfl (cs := #[.int .i64 a0_0,.int .i64 a0_1]) (t := 54) ?hr ?_;(case hr => go_simp;try rfl);intro gb607 hg w6 hbox hb;have BK607 := am (hbox);have GW607 := am (ge_new (HB.out) hg);have GE607 := am (ge_new (HB.out) hg);replace HB := am (below_step (HB.out) hb);clear hb hbox hg;obtain ⟨hcz7_0,hcz7_1⟩ := cO2 BK607.out) | ((with_reducible refine gate_callee (f := 17) rfl ?_);refine goesL_ (some 5) rfl rfl Tryz.func17 (by kernel_rfl) rfl #[.int .i64 a0_0] rfl (by (try simp only [List.map_toArray,List.map_cons,List.map_nil]);first | done | rfl | (simp only [List.length_drop,List.length_take];rfl)) ?_;(with_reducible refine (q4_Cups.calls a0_0 true _ A2.out).mono ?_);rintro e w' ⟨rfl,⟨nd,rfl⟩⟩;refine ⟨_,rfl,?_⟩) | (go_at_call 17;(with_reducible refine (q4_Cups.calls a0_1 true _ A4.out).mono ?_);rintro e w' ⟨rfl,⟨nd,rfl⟩⟩))
   go_ret
   exact ⟨by first | rfl | (simp [*] <;> rfl),pw_below_drewN HB.out _⟩
 · replace c5 := Bool.eq_false_iff.mpr c5
   subst c5
   replace H : (some false) = some r := by rw [if_neg (show ¬ (false = true) by decide)] at H;exact H
   obtain rfl := Option.some.inj H
   go_enter Tryz.func38,Tryz.ntmps38
   go_wp2_with (first | ((refine gate_dst (N := 1) rfl ?_);refine box_event rfl (N := 1) rfl (cs := #[.int .i64 a0_0,.int .i64 a0_1]) (t := 54) ?hr ?_;(case hr => go_simp;try rfl);intro gb607 hg w8 hbox hb;have BK607 := am (hbox);have GW607 := am (ge_new (HB.out) hg);have GE607 := am (ge_new (HB.out) hg);replace HB := am (below_step (HB.out) hb);clear hb hbox hg;obtain ⟨hcz9_0,hcz9_1⟩ := cO2 BK607.out) | ((with_reducible refine gate_callee (f := 17) rfl ?_);refine goesL_ (some 5) rfl rfl Tryz.func17 (by kernel_rfl) rfl #[.int .i64 a0_0] rfl (by (try simp only [List.map_toArray,List.map_cons,List.map_nil]);first | done | rfl | (simp only [List.length_drop,List.length_take];rfl)) ?_;(with_reducible refine (q4_Cups.calls a0_0 true _ A2.out).mono ?_);rintro e w' ⟨rfl,⟨nd,rfl⟩⟩;refine ⟨_,rfl,?_⟩) | (go_at_call 17;(with_reducible refine (q4_Cups.calls a0_1 false _ A4.out).mono ?_);rintro e w' ⟨rfl,⟨nd,rfl⟩⟩))
   go_ret
   exact ⟨by first | rfl | (simp [*] <;> rfl),pw_below_drewN HB.out _⟩
def ca_isFlow.f (a0 : Int) : Option (Bool) := (ca_in.f a0 0 10000).bind fun t137 => (some t137)
theorem ca_isFlow.calls (a0 : Int) (r : Bool) (w : World) (h : ca_isFlow.f a0 = some r) :
 Calls Tryz.prog 67 #[.int .i64 a0] w fun e w' => e = .returned (.bool r) ∧ Drawn0 w w' := by
 have H : ((ca_in.f a0 0 10000).bind fun t137 => (some t137)) = some r := h
 clear h
 replace H := obm H
 obtain ⟨t137,A20,H⟩ := H
 replace H : (some t137) = some r := H
 have A2 := am A20
 clear A20
 obtain rfl := Option.some.inj H
 go_enter Tryz.func67,Tryz.ntmps67
 go_wp2_with (first | ((with_reducible refine gate_callee (f := 79) rfl ?_);refine goesL_ (some 4) rfl rfl Tryz.func79 (by kernel_rfl) rfl #[.int .i64 a0,.int .i64 0,.int .i64 10000] rfl (by (try simp only [List.map_toArray,List.map_cons,List.map_nil]);first | done | rfl | (simp only [List.length_drop,List.length_take];rfl)) ?_;(with_reducible refine (ca_in.calls a0 0 10000 t137 _ A2.out).mono ?_);rintro e w' ⟨rfl,⟨nd,rfl⟩⟩;refine ⟨_,rfl,?_⟩))
 go_ret
 exact ⟨by first | rfl | (simp;done) | (simp [*];done),by repeat (first | exact Drawn0.refl _ | apply Drawn0.step)⟩
end
def isSpan_isFlow.f (a0_0 a0_1 : Int) : Option Bool := (ca_isFlow.f a0_0).bind fun t => if t = true then (ca_isFlow.f a0_1).bind fun u => (if u = true then some (decide (a0_0 ≤ a0_1)) else some false) else some false
theorem isSpan_isFlow.calls (a0_0 a0_1 : Int) (r : Bool) (w : World) (h : isSpan_isFlow.f a0_0 a0_1 = some r) :
 Calls Tryz.prog 76 #[.agg #[.int .i64 a0_0,.int .i64 a0_1],.func (.func 67) #[] #[]] w fun e w' => e = .returned (.bool r) ∧ Below w.heap.size w w' := by
 have hu := Tryz.underlying54
 have HB := Aside0.mk (Below.refl w.heap.size w)
 unfold isSpan_isFlow.f at h
 obtain ⟨t,ht,h⟩ := obm h
 have H1 := Aside0.mk ht
 clear ht
 cases t with
 | false =>
  rw [if_neg (by decide)] at h
  obtain rfl := Option.some.inj h
  clear h
  go_enter Tryz.func76,Tryz.ntmps76
  go_wp2_with (first | ((with_reducible refine gate_dst (N := 2) rfl ?_);(try (refine gate_guard (by rfl) ?_;dsimp only));refine box_event ?hg (N := 2) ?hd (cs := #[.int .i64 a0_0,.int .i64 a0_1]) (t := 54) ?hr ?_;(case hd => rfl);(case hg => rfl);(case hr => go_simp;try rfl);intro g hg w2 hbox hb;have n_ := Aside0.mk (below_then HB.out HB.out.size hb);clear HB;have HB := n_;clear n_;clear hg;have BKg := Aside0.mk hbox;clear hbox;have hczg_0 : w2.cell? ⟨g,0,none⟩ = some (.int .i64 a0_0) := (blk_cell BKg.out 0).trans rfl;have hfzg_0 := blk_frozen BKg.out 0;have hczg_1 : w2.cell? ⟨g,1,none⟩ = some (.int .i64 a0_1) := (blk_cell BKg.out 1).trans rfl;have hfzg_1 := blk_frozen BKg.out 1;clear hb) | (go_at_call 67;(with_reducible refine (ca_isFlow.calls a0_0 false _ H1.out).mono ?_);rintro e w1 ⟨rfl,hd⟩;have hb := hd.below;clear hd;have n_ := Aside0.mk (below_then HB.out HB.out.size hb);clear HB;have HB := n_;clear n_;have n_ := Aside0.mk (blk_below BKg.out hb);clear BKg;have BKg := n_;clear n_;have hczg_0 : w1.cell? ⟨g,0,none⟩ = some (.int .i64 a0_0) := (blk_cell BKg.out 0).trans rfl;have hfzg_0 := blk_frozen BKg.out 0;have hczg_1 : w1.cell? ⟨g,1,none⟩ = some (.int .i64 a0_1) := (blk_cell BKg.out 1).trans rfl;have hfzg_1 := blk_frozen BKg.out 1;clear hb))
  go_ret
  exact ⟨rfl,HB.out⟩
 | true =>
  rw [if_pos rfl] at h
  obtain ⟨u,hu2,h⟩ := obm h
  have H2 := Aside0.mk hu2
  clear hu2
  cases u with
  | false =>
   rw [if_neg (by decide)] at h
   obtain rfl := Option.some.inj h
   clear h
   go_enter Tryz.func76,Tryz.ntmps76
   go_wp2_with (first | ((with_reducible refine gate_dst (N := 2) rfl ?_);(try (refine gate_guard (by rfl) ?_;dsimp only));refine box_event ?hg (N := 2) ?hd (cs := #[.int .i64 a0_0,.int .i64 a0_1]) (t := 54) ?hr ?_;(case hd => rfl);(case hg => rfl);(case hr => go_simp;try rfl);intro g hg w2 hbox hb;have n_ := Aside0.mk (below_then HB.out HB.out.size hb);clear HB;have HB := n_;clear n_;clear hg;have BKg := Aside0.mk hbox;clear hbox;have hczg_0 : w2.cell? ⟨g,0,none⟩ = some (.int .i64 a0_0) := (blk_cell BKg.out 0).trans rfl;have hfzg_0 := blk_frozen BKg.out 0;have hczg_1 : w2.cell? ⟨g,1,none⟩ = some (.int .i64 a0_1) := (blk_cell BKg.out 1).trans rfl;have hfzg_1 := blk_frozen BKg.out 1;clear hb) | (go_at_call 67;(with_reducible refine (ca_isFlow.calls a0_0 true _ H1.out).mono ?_);rintro e w1 ⟨rfl,hd⟩;have hb := hd.below;clear hd;have n_ := Aside0.mk (below_then HB.out HB.out.size hb);clear HB;have HB := n_;clear n_;have n_ := Aside0.mk (blk_below BKg.out hb);clear BKg;have BKg := n_;clear n_;have hczg_0 : w1.cell? ⟨g,0,none⟩ = some (.int .i64 a0_0) := (blk_cell BKg.out 0).trans rfl;have hfzg_0 := blk_frozen BKg.out 0;have hczg_1 : w1.cell? ⟨g,1,none⟩ = some (.int .i64 a0_1) := (blk_cell BKg.out 1).trans rfl;have hfzg_1 := blk_frozen BKg.out 1;clear hb) | (go_at_call 67;(with_reducible refine (ca_isFlow.calls a0_1 false _ H2.out).mono ?_);rintro e w1 ⟨rfl,hd⟩;have hb := hd.below;clear hd;have n_ := Aside0.mk (below_then HB.out HB.out.size hb);clear HB;have HB := n_;clear n_;have n_ := Aside0.mk (blk_below BKg.out hb);clear BKg;have BKg := n_;clear n_;have hczg_0 : w1.cell? ⟨g,0,none⟩ = some (.int .i64 a0_0) := (blk_cell BKg.out 0).trans rfl;have hfzg_0 := blk_frozen BKg.out 0;have hczg_1 : w1.cell? ⟨g,1,none⟩ = some (.int .i64 a0_1) := (blk_cell BKg.out 1).trans rfl;have hfzg_1 := blk_frozen BKg.out 1;clear hb))
   go_ret
   exact ⟨rfl,HB.out⟩
  | true =>
   rw [if_pos rfl] at h
   have H3 := Aside0.mk (ret_bool_eq (Option.some.inj h))
   clear h
   go_enter Tryz.func76,Tryz.ntmps76
   go_wp2_with (first | ((with_reducible refine gate_dst (N := 2) rfl ?_);(try (refine gate_guard (by rfl) ?_;dsimp only));refine box_event ?hg (N := 2) ?hd (cs := #[.int .i64 a0_0,.int .i64 a0_1]) (t := 54) ?hr ?_;(case hd => rfl);(case hg => rfl);(case hr => go_simp;try rfl);intro g hg w2 hbox hb;have n_ := Aside0.mk (below_then HB.out HB.out.size hb);clear HB;have HB := n_;clear n_;clear hg;have BKg := Aside0.mk hbox;clear hbox;have hczg_0 : w2.cell? ⟨g,0,none⟩ = some (.int .i64 a0_0) := (blk_cell BKg.out 0).trans rfl;have hfzg_0 := blk_frozen BKg.out 0;have hczg_1 : w2.cell? ⟨g,1,none⟩ = some (.int .i64 a0_1) := (blk_cell BKg.out 1).trans rfl;have hfzg_1 := blk_frozen BKg.out 1;clear hb) | (go_at_call 67;(with_reducible refine (ca_isFlow.calls a0_0 true _ H1.out).mono ?_);rintro e w1 ⟨rfl,hd⟩;have hb := hd.below;clear hd;have n_ := Aside0.mk (below_then HB.out HB.out.size hb);clear HB;have HB := n_;clear n_;have n_ := Aside0.mk (blk_below BKg.out hb);clear BKg;have BKg := n_;clear n_;have hczg_0 : w1.cell? ⟨g,0,none⟩ = some (.int .i64 a0_0) := (blk_cell BKg.out 0).trans rfl;have hfzg_0 := blk_frozen BKg.out 0;have hczg_1 : w1.cell? ⟨g,1,none⟩ = some (.int .i64 a0_1) := (blk_cell BKg.out 1).trans rfl;have hfzg_1 := blk_frozen BKg.out 1;clear hb) | (go_at_call 67;(with_reducible refine (ca_isFlow.calls a0_1 true _ H2.out).mono ?_);rintro e w1 ⟨rfl,hd⟩;have hb := hd.below;clear hd;have n_ := Aside0.mk (below_then HB.out HB.out.size hb);clear HB;have HB := n_;clear n_;have n_ := Aside0.mk (blk_below BKg.out hb);clear BKg;have BKg := n_;clear n_;have hczg_0 : w1.cell? ⟨g,0,none⟩ = some (.int .i64 a0_0) := (blk_cell BKg.out 0).trans rfl;have hfzg_0 := blk_frozen BKg.out 0;have hczg_1 : w1.cell? ⟨g,1,none⟩ = some (.int .i64 a0_1) := (blk_cell BKg.out 1).trans rfl;have hfzg_1 := blk_frozen BKg.out 1;clear hb))
   go_ret
   exact ⟨H3.out,HB.out⟩
section
attribute [local go_sem] max2_int min2_int max_two min_two
set_option linter.unusedSimpArgs false
set_option linter.unusedSimpArgs false
set_option linter.unusedSimpArgs false
set_option linter.unusedSimpArgs false
end
theorem w64 {n : Int} (h : -9223372036854775808 ≤ n ∧ n ≤ 9223372036854775807) : wrap64 n = n := by unfold wrap64;omega
theorem ksucc {k : Nat} (h : 0 < k) : ∃ m,k = m + 1 := ⟨k - 1,by omega⟩
def rowOk (r : S126) : Bool := decide (1 ≤ r.f0 ∧ r.f0 ≤ 60) && (decide (1 ≤ r.f1 ∧ r.f1 ≤ 60) && decide (1 ≤ r.f2 ∧ r.f2 ≤ 1000))
def nozOk (n : Int) (z : S48) : Bool := decide (0 ≤ z.f0 ∧ z.f0 ≤ n - 1) && decide (0 ≤ z.f1 ∧ z.f1 ≤ 40)
def okT (rows : List S126) (draw : Int) : Bool := decide (1 ≤ (rows.length : Int) ∧ (rows.length : Int) ≤ 12) && (decide (0 ≤ draw ∧ draw ≤ 100) && rows.all rowOk)
def okB (rows : List S126) (draw : Int) (noz : List S48) (weir spill : Int) : Bool :=
 okT rows draw && (decide (1 ≤ (noz.length : Int) ∧ (noz.length : Int) ≤ 6) && (decide (0 ≤ weir ∧ weir ≤ 40) && (decide (0 ≤ spill ∧ spill ≤ 100) && noz.all (nozOk rows.length))))
theorem c_in (a b c : Int) : ca_in.f a b c = some (decide (b ≤ a ∧ a ≤ c)) := by
 unfold ca_in.f
 by_cases h : a ≥ b
 · rw [if_pos h];have : b ≤ a := h;simp [this]
 · rw [if_neg h];have : ¬ b ≤ a := h;simp [this]
theorem n_in (a b c : Int) : nz_in.f a b c = some (decide (b ≤ a ∧ a ≤ c)) := c_in a b c
theorem r4_in (a b c : Int) : q4_in.f a b c = some (decide (b ≤ a ∧ a ≤ c)) := c_in a b c
theorem r3_in (a b c : Int) : q3_in.f a b c = some (decide (b ≤ a ∧ a ≤ c)) := c_in a b c
theorem c_height (a : Int) : ca_isHeight.f a = some (decide (0 ≤ a ∧ a ≤ 40)) := by unfold ca_isHeight.f;rw [c_in];rfl
theorem c_flow (a : Int) : ca_isFlow.f a = some (decide (0 ≤ a ∧ a ≤ 10000)) := by unfold ca_isFlow.f;rw [c_in];rfl
theorem r_height (a : Int) : q4_Height.f a = some (decide (0 ≤ a ∧ a ≤ 40)) := by unfold q4_Height.f;rw [r4_in];rfl
theorem r_cups (a : Int) : q4_Cups.f a = some (decide (0 ≤ a ∧ a ≤ 10000)) := by unfold q4_Cups.f;rw [r4_in];rfl
theorem anyM_total {α : Type} {q : α → Option Bool} {p : α → Bool} (h : ∀ x,q x = some (p x)) : ∀ xs,anyM q xs = some (xs.any p)
 | [] => rfl
 | x :: xs => by
  simp only [anyM,h,Option.bind_some,List.any_cons,anyM_total h xs]
  cases p x <;> rfl
theorem row_bad (x : S126) : nz_isTable_1.f x.f0 x.f1 x.f2 = some (!rowOk x) := by
 unfold nz_isTable_1.f rowOk
 simp only [n_in,Option.bind_some]
 cases decide (1 ≤ x.f0 ∧ x.f0 ≤ 60) <;> cases decide (1 ≤ x.f1 ∧ x.f1 ≤ 60) <;> cases decide (1 ≤ x.f2 ∧ x.f2 ≤ 1000) <;> rfl
theorem noz_bad {rows : List S126} (hl : rows.length ≤ 1000) (x : S48) : ca_isBasin_1.f rows x = some (!nozOk rows.length x) := by
 unfold ca_isBasin_1.f nozOk
 rw [w64 (by omega)]
 simp only [c_in,c_height,Option.bind_some]
 cases decide (0 ≤ x.f0 ∧ x.f0 ≤ (rows.length : Int) - 1) <;> cases decide (0 ≤ x.f1 ∧ x.f1 ≤ 40) <;> rfl
theorem isTable_eq (rows : List S126) (draw : Int) : nz_isTable.f rows draw = some (okT rows draw) := by
 unfold nz_isTable.f okT cf_isTable.f
 rw [anyM_total row_bad,← List.not_all_eq_any_not]
 simp only [n_in,Option.bind_some]
 cases decide (1 ≤ (rows.length : Int) ∧ (rows.length : Int) ≤ 12) <;> cases decide (0 ≤ draw ∧ draw ≤ 100) <;> cases rows.all rowOk <;> rfl
theorem isBasin_eq {rows : List S126} {draw : Int} {noz : List S48} {weir spill : Int} (hl : rows.length ≤ 1000) : ca_isBasin.f rows draw noz weir spill = some (okB rows draw noz weir spill) := by
 unfold ca_isBasin.f okB nz_Check.f
 rw [anyM_total (noz_bad hl),← List.not_all_eq_any_not,isTable_eq]
 simp only [c_in,c_height,Option.bind_some]
 cases okT rows draw <;> cases decide (1 ≤ (noz.length : Int) ∧ (noz.length : Int) ≤ 6) <;> cases decide (0 ≤ weir ∧ weir ≤ 40) <;> cases decide (0 ≤ spill ∧ spill ≤ 100) <;> cases noz.all (nozOk rows.length) <;> rfl
theorem refTable_go (rows : List S126) (draw : Int) (hl : rows.length ≤ 1000) : ∀ (d k : Nat) (i : Int),0 ≤ i → i + d = rows.length → d < k →
 q3_Table.l0 k i rows draw = some ((rows.drop i.toNat).all rowOk && (decide (1 ≤ (rows.length : Int) ∧ (rows.length : Int) ≤ 12) && decide (0 ≤ draw ∧ draw ≤ 100)))
 | 0,k,i,h0,hi,hk => by
  obtain ⟨k,rfl⟩ := ksucc hk
  simp only [q3_Table.l0]
  rw [if_neg (by omega),List.drop_of_length_le (by omega)]
  simp only [r3_in,Option.bind_some,List.all_nil,Bool.true_and]
  cases decide (1 ≤ (rows.length : Int) ∧ (rows.length : Int) ≤ 12) <;> cases decide (0 ≤ draw ∧ draw ≤ 100) <;> rfl
 | d + 1,k,i,h0,hi,hk => by
  obtain ⟨k,rfl⟩ := ksucc (by omega : 0 < k)
  simp only [q3_Table.l0]
  rw [if_pos (by omega),if_pos h0,w64 (by omega),refTable_go rows draw hl d k (i + 1) (by omega) (by omega) (by omega),drop_at z126 rows i h0 (by omega),List.all_cons]
  show _ = some ((rowOk (rd_T126 rows i) && _) && _)
  unfold rowOk
  simp only [r3_in,Option.bind_some]
  cases decide (1 ≤ (rd_T126 rows i).f0 ∧ (rd_T126 rows i).f0 ≤ 60) <;> cases decide (1 ≤ (rd_T126 rows i).f1 ∧ (rd_T126 rows i).f1 ≤ 60) <;> cases decide (1 ≤ (rd_T126 rows i).f2 ∧ (rd_T126 rows i).f2 ≤ 1000) <;> rfl
theorem refTable_eq {rows : List S126} {draw : Int} {k : Nat} (hl : rows.length ≤ 1000) (hk : rows.length < k) : q3_Table.f k rows draw = some (okT rows draw) := by
 unfold q3_Table.f okT
 rw [refTable_go rows draw hl rows.length k 0 (by omega) (by omega) hk]
 show some (rows.all rowOk && _) = _
 cases decide (1 ≤ (rows.length : Int) ∧ (rows.length : Int) ≤ 12) <;> cases decide (0 ≤ draw ∧ draw ≤ 100) <;> cases rows.all rowOk <;> rfl
theorem refBasin_go (rows : List S126) (draw : Int) (noz : List S48) (weir spill : Int) (hl : rows.length ≤ 1000) (hn : noz.length ≤ 1000) : ∀ (d k : Nat) (i : Int),0 ≤ i → i + d = noz.length → rows.length + d + 1 < k →
 q4_Basin.l0 k i rows draw noz weir spill = some ((noz.drop i.toNat).all (nozOk rows.length) && (okT rows draw && (decide (1 ≤ (noz.length : Int) ∧ (noz.length : Int) ≤ 6) && (decide (0 ≤ weir ∧ weir ≤ 40) && decide (0 ≤ spill ∧ spill ≤ 100)))))
 | 0,k,i,h0,hi,hk => by
  obtain ⟨k,rfl⟩ := ksucc (by omega : 0 < k)
  simp only [q4_Basin.l0]
  rw [if_neg (by omega),List.drop_of_length_le (by omega),refTable_eq hl (by omega)]
  simp only [r4_in,r_height,Option.bind_some,List.all_nil,Bool.true_and]
  cases okT rows draw <;> cases decide (1 ≤ (noz.length : Int) ∧ (noz.length : Int) ≤ 6) <;> cases decide (0 ≤ weir ∧ weir ≤ 40) <;> cases decide (0 ≤ spill ∧ spill ≤ 100) <;> rfl
 | d + 1,k,i,h0,hi,hk => by
  obtain ⟨k,rfl⟩ := ksucc (by omega : 0 < k)
  simp only [q4_Basin.l0]
  rw [if_pos (by omega),if_pos h0,w64 (n := i + 1) (by omega),w64 (by omega),refBasin_go rows draw noz weir spill hl hn d k (i + 1) (by omega) (by omega) (by omega),drop_at z48 noz i h0 (by omega),List.all_cons]
  show _ = some ((nozOk rows.length (rd_T48 noz i) && _) && _)
  unfold nozOk
  simp only [r4_in,r_height,Option.bind_some]
  cases decide (0 ≤ (rd_T48 noz i).f0 ∧ (rd_T48 noz i).f0 ≤ (rows.length : Int) - 1) <;> cases decide (0 ≤ (rd_T48 noz i).f1 ∧ (rd_T48 noz i).f1 ≤ 40) <;> rfl
theorem refBasin_eq {rows : List S126} {draw : Int} {noz : List S48} {weir spill : Int} {k : Nat} (hl : rows.length ≤ 1000) (hn : noz.length ≤ 1000) (hk : rows.length + noz.length + 1 < k) :
 q4_Basin.f k rows draw noz weir spill = some (okB rows draw noz weir spill) := by
 unfold q4_Basin.f okB
 rw [refBasin_go rows draw noz weir spill hl hn noz.length k 0 (by omega) (by omega) hk]
 show some (noz.all (nozOk rows.length) && _) = _
 cases okT rows draw <;> cases decide (1 ≤ (noz.length : Int) ∧ (noz.length : Int) ≤ 6) <;> cases decide (0 ≤ weir ∧ weir ≤ 40) <;> cases decide (0 ≤ spill ∧ spill ≤ 100) <;> cases noz.all (nozOk rows.length) <;> rfl
structure OkB (rows : List S126) (draw : Int) (noz : List S48) (weir spill : Int) : Prop where
 r1 : 1 ≤ rows.length
 r2 : rows.length ≤ 12
 tab : okT rows draw = true
 rr : ∀ r ∈ rows,1 ≤ r.f2 ∧ r.f2 ≤ 1000
 n1 : 1 ≤ noz.length
 n2 : noz.length ≤ 6
 w0 : 0 ≤ weir
 w1 : weir ≤ 40
 s0 : 0 ≤ spill
 s1 : spill ≤ 100
 nn : ∀ z ∈ noz,0 ≤ z.f0 ∧ z.f0 < rows.length ∧ 0 ≤ z.f1 ∧ z.f1 ≤ 40
theorem okB_iff {rows : List S126} {draw : Int} {noz : List S48} {weir spill : Int} : okB rows draw noz weir spill = true ↔ OkB rows draw noz weir spill := by
 constructor
 · intro h
   unfold okB at h
   simp only [Bool.and_eq_true,decide_eq_true_eq,List.all_eq_true] at h
   obtain ⟨ht,h2,h3,h4,h5⟩ := h
   have ht' := ht
   unfold okT at ht'
   simp only [Bool.and_eq_true,decide_eq_true_eq,List.all_eq_true] at ht'
   obtain ⟨h0,h1,hr⟩ := ht'
   refine ⟨by omega,by omega,ht,fun r hm => ?_,by omega,by omega,by omega,by omega,by omega,by omega,fun z hm => ?_⟩
   · have := hr r hm;unfold rowOk at this;simp only [Bool.and_eq_true,decide_eq_true_eq] at this;omega
   · have := h5 z hm;unfold nozOk at this;simp only [Bool.and_eq_true,decide_eq_true_eq] at this;omega
 · intro h
   unfold okB
   simp only [Bool.and_eq_true,decide_eq_true_eq,List.all_eq_true]
   have a1 := h.n1;have a2 := h.n2
   refine ⟨h.tab,by omega,⟨h.w0,h.w1⟩,⟨h.s0,h.s1⟩,fun z hz => ?_⟩
   have := h.nn z hz
   unfold nozOk;simp only [Bool.and_eq_true,decide_eq_true_eq];omega
def gvz (rows : List S126) (z : S48) : Int := (rd_T126 rows z.f0).f2
def pour (rows : List S126) (h : Int) (z : S48) : Int := gvz rows z * mx 0 (mn 5 (h - z.f1)) / 5
def gat (rows : List S126) (noz : List S48) (h : Int) : List Int := noz.map (pour rows h)
theorem gvz_in {rows : List S126} {draw : Int} {noz : List S48} {weir spill : Int} (h : OkB rows draw noz weir spill) {z : S48} (hz : z ∈ noz) : 1 ≤ gvz rows z ∧ gvz rows z ≤ 1000 := by
 have a := h.nn z hz
 exact h.rr _ (getD_mem z126 a.1 a.2.1)
theorem mm_cases (x : Int) : mx 0 (mn 5 x) = 0 ∨ mx 0 (mn 5 x) = 1 ∨ mx 0 (mn 5 x) = 2 ∨ mx 0 (mn 5 x) = 3 ∨ mx 0 (mn 5 x) = 4 ∨ mx 0 (mn 5 x) = 5 := by
 unfold mx mn;split <;> split <;> omega
theorem mm_swap (x : Int) : mn 5 (mx 0 x) = mx 0 (mn 5 x) := by unfold mx mn;(repeat' split) <;> omega
theorem pour_prog {g m : Int} (h0 : 0 ≤ g) (h1 : g ≤ 1000) (hm : m = 0 ∨ m = 1 ∨ m = 2 ∨ m = 3 ∨ m = 4 ∨ m = 5) : wrap64 (Int.tdiv (wrap64 (g * m)) 5) = g * m / 5 := by
 have : 0 ≤ g * m ∧ g * m ≤ 5000 := by rcases hm with rfl | rfl | rfl | rfl | rfl | rfl <;> omega
 rw [w64 (n := g * m) (by omega),Int.tdiv_eq_ediv_of_nonneg this.1,w64 (by omega)]
theorem pour_in {rows : List S126} {draw : Int} {noz : List S48} {weir spill : Int} (h : OkB rows draw noz weir spill) {z : S48} (hz : z ∈ noz) (x : Int) : 0 ≤ pour rows x z ∧ pour rows x z ≤ 1000 := by
 have a := gvz_in h hz
 unfold pour
 rcases mm_cases (x - z.f1) with e | e | e | e | e | e <;> rw [e] <;> omega
theorem rd_map (f : S48 → Int) {noz : List S48} {i : Int} (h0 : 0 ≤ i) (h1 : i < noz.length) : rd (noz.map f) i = f (rd_T48 noz i) := by
 unfold rd rd_T48
 rw [List.getD_eq_getElem?_getD,List.getD_eq_getElem?_getD,List.getElem?_map,List.getElem?_eq_getElem (show i.toNat < noz.length by omega)]
 rfl
theorem take_snoc {α β : Type} (d : α) (f : α → β) (l : List α) {i : Int} (h0 : 0 ≤ i) (h1 : i < l.length) : (l.take (i + 1).toNat).map f = (l.take i.toNat).map f ++ [f (l.getD i.toNat d)] := by
 rw [show (i + 1).toNat = i.toNat + 1 by omega,List.take_succ_eq_append_getElem (show i.toNat < l.length by omega),List.map_append,List.getD_eq_getElem?_getD,List.getElem?_eq_getElem (show i.toNat < l.length by omega)]
 rfl
set_option linter.unusedSimpArgs false
set_option linter.unusedSimpArgs false
set_option linter.unusedSimpArgs false
section
attribute [local go_sem] max2_int min2_int max_two min_two
set_option linter.unusedSimpArgs false
set_option linter.unusedSimpArgs false
end
set_option linter.unusedSimpArgs false
def fillK (n : Nat) : Nat := 50 * (n + 2) + 100
theorem sum_bd {l : List Int} {B : Int} (hB : 0 ≤ B) (h : ∀ x ∈ l,-B ≤ x ∧ x ≤ B) : -(B * l.length) ≤ l.sum ∧ l.sum ≤ B * l.length := by
 induction l with
 | nil => simp
 | cons x l ih =>
  have a := h x (by simp)
  have b := ih (fun y hy => h y (by simp [hy]))
  rw [List.sum_cons,List.length_cons,Int.natCast_add,Int.mul_add]
  omega
theorem sum_go (xs : List Int) (hl : xs.length ≤ 1000) (hx : ∀ x ∈ xs,-1000000 ≤ x ∧ x ≤ 1000000) : ∀ (d k : Nat) (i acc : Int),0 ≤ i → i + d = xs.length → d < k → -1000000 * i ≤ acc ∧ acc ≤ 1000000 * i →
 ca_sum.l0 k acc xs xs.length i = some (acc + (xs.drop i.toNat).sum)
 | 0,k,i,acc,h0,hi,hk,hb => by
  obtain ⟨k,rfl⟩ := ksucc hk
  simp only [ca_sum.l0]
  rw [if_neg (by omega),List.drop_of_length_le (by omega)]
  simp
 | d + 1,k,i,acc,h0,hi,hk,hb => by
  obtain ⟨k,rfl⟩ := ksucc (by omega : 0 < k)
  simp only [ca_sum.l0]
  have e := drop_at (0 : Int) xs i h0 (by omega)
  have m := hx _ (getD_mem (0 : Int) h0 (by omega : i < xs.length))
  rw [if_pos (by omega),if_pos h0,if_pos (by omega)]
  unfold rd
  rw [w64 (n := acc + _) (by omega),w64 (by omega),sum_go xs hl hx d k (i + 1) _ (by omega) (by omega) (by omega) (by omega),e,List.sum_cons,Int.add_assoc]
theorem csum {k : Nat} {l : List Int} (hl : l.length ≤ 1000) (hx : ∀ x ∈ l,-1000000 ≤ x ∧ x ≤ 1000000) (hk : l.length < k) : ca_sum.f k l = some l.sum := by
 unfold ca_sum.f
 rw [sum_go l hl hx l.length k 0 0 (by omega) (by omega) hk (by omega)]
 simp
theorem nsum {k : Nat} {l : List Int} (hl : l.length ≤ 1000) (hx : ∀ x ∈ l,-1000000 ≤ x ∧ x ≤ 1000000) (hk : l.length < k) : nz_sum.f k l = some l.sum := by
 have e : ∀ k x3 x6 x7 x8,nz_sum.l0 k x3 x6 x7 x8 = ca_sum.l0 k x3 x6 x7 x8 := by
  intro k
  induction k with
  | zero => intros;rfl
  | succ k ih => intro a b c d;simp only [nz_sum.l0,ca_sum.l0,ih]
 have h := csum hl hx hk
 unfold ca_sum.f at h
 unfold nz_sum.f
 rw [e,h]
theorem isRow_eq {rows : List S126} {draw n : Int} (hl : rows.length ≤ 1000) : nz_isRow.f rows draw n = some (decide (0 ≤ n ∧ n ≤ (rows.length : Int) - 1)) := by
 unfold nz_isRow.f
 rw [w64 (by omega),n_in]
 rfl
theorem isSet1_eq {rows : List S126} {draw n : Int} (h0 : 0 ≤ n) (h1 : n < rows.length) (hl : rows.length ≤ 1000) : nz_isSet.f rows draw [n] = some true := by
 unfold nz_isSet.f
 rw [if_pos (by simp)]
 have : sl_IsSorted_int_int.f ([n].length + 1) [n] = some true := by
  unfold sl_IsSorted_int_int.f
  simp only [sl_IsSorted_int_int.l0,List.length_cons,List.length_nil]
  rw [if_neg (by unfold wrap64;omega)]
 rw [this]
 simp only [Option.bind_some,anyM,isRow_eq hl]
 rw [decide_eq_true (show 0 ≤ n ∧ n ≤ (rows.length : Int) - 1 by omega)]
 rfl
theorem gives1_eq {rows : List S126} {draw n : Int} {k : Nat} (h0 : 0 ≤ n) (h1 : n < rows.length) (hl : rows.length ≤ 1000) (hg : 0 ≤ (rd_T126 rows n).f2 ∧ (rd_T126 rows n).f2 ≤ 1000000) (hk : 5 ≤ k) : nz_gives.f k rows draw [n] = some (rd_T126 rows n).f2 := by
 obtain ⟨m,rfl⟩ : ∃ m,k = m + 1 + 1 := ⟨k - 2,by omega⟩
 unfold nz_gives.f
 have e0 : rd [n] 0 = n := rfl
 have e1 : wrap64 (0 + 1) = 1 := by unfold wrap64;omega
 simp only [nz_gives.l0,List.length_cons,List.length_nil,e0,e1]
 rw [if_pos (by decide),if_pos (by decide),if_pos (by decide),if_pos h0,if_pos h1,if_pos (by decide),if_neg (by decide)]
 simp only [List.nil_append]
 rw [nsum (by simp) (by intro x hx;simp at hx;subst hx;omega) (by simp;omega)]
 simp
theorem Gives1_eq {rows : List S126} {draw : Int} {noz : List S48} {weir spill : Int} (h : OkB rows draw noz weir spill) {z : S48} (hz : z ∈ noz) {k : Nat} (hk : 5 ≤ k) : nz_Gives.f k rows draw [z.f0] = some (gvz rows z,0) := by
 have a := h.nn z hz
 have g := gvz_in h hz
 unfold nz_Gives.f
 rw [isTable_eq,h.tab,Option.bind_some,if_pos rfl,isSet1_eq a.1 a.2.1 (by have := h.r2;omega),Option.bind_some,if_pos rfl,gives1_eq a.1 a.2.1 (by have := h.r2;omega) (by unfold gvz at g;omega) hk]
 rfl
def grid (rows : List S126) (noz : List S48) : List (List Int) := (List.range 41).map fun (j : Nat) => gat rows noz (j : Int)
theorem grid_len (rows : List S126) (noz : List S48) : (grid rows noz).length = 41 := by simp [grid]
theorem grid_at (rows : List S126) (noz : List S48) {h : Int} (h0 : 0 ≤ h) (h1 : h ≤ 40) : rd_L3 (grid rows noz) h = gat rows noz h := by
 unfold rd_L3 grid
 rw [List.getD_eq_getElem?_getD,List.getElem?_map,List.getElem?_range (by omega)]
 simp only [Option.map_some,Option.getD_some]
 rw [show ((h.toNat : Nat) : Int) = h by omega]
section
variable {rows : List S126} {draw : Int} {noz : List S48} {weir spill : Int}
theorem z_mem {i : Int} (h0 : 0 ≤ i) (h1 : i < noz.length) : rd_T48 noz i ∈ noz := getD_mem z48 h0 h1
theorem fill_l2 (h : OkB rows draw noz weir spill) (hh : Int) (p0 : 0 ≤ hh) (p1 : hh ≤ 40) (G : List (List Int)) (hG : G.length ≤ 41) (r) (C : Nat) (hr : ∀ k,C ≤ k → ca_fill.l1 k (noz.map (gvz rows)) (hh + 1) rows draw noz weir spill rows draw noz weir spill (G ++ [gat rows noz hh]) = r) : ∀ (d k : Nat) (i : Int),0 ≤ i → i + d = noz.length → C + d < k →
 ca_fill.l2 k (noz.map (gvz rows)) hh ((noz.take i.toNat).map (pour rows hh)) hh noz noz.length i rows draw noz weir spill rows draw noz weir spill G = r
 | 0,k,i,h0,hi,hk => by
  obtain ⟨k,rfl⟩ := ksucc (by omega : 0 < k)
  simp only [ca_fill.l2]
  rw [if_neg (by omega),if_pos (by omega),w64 (by omega),List.take_of_length_le (by omega)]
  exact hr k (by omega)
 | d + 1,k,i,h0,hi,hk => by
  obtain ⟨k,rfl⟩ := ksucc (by omega : 0 < k)
  have n2 := h.n2
  have hz := z_mem h0 (by omega : i < noz.length)
  have a := h.nn _ hz
  have g := gvz_in h hz
  simp only [ca_fill.l2]
  rw [if_pos (by omega),if_pos h0,if_pos (by omega),if_pos (by rw [List.length_map];omega),if_pos (by rw [List.length_map,List.length_take];omega),rd_map _ h0 (by omega),w64 (n := hh - _) (by omega),pour_prog (by omega) (by omega) (mm_cases _),w64 (n := i + 1) (by omega)]
  have e := take_snoc z48 (pour rows hh) noz h0 (by omega)
  have f := fill_l2 h hh p0 p1 G hG r C hr d k (i + 1) (by omega) (by omega) (by omega)
  rw [e] at f
  exact f
theorem fill_l1 (h : OkB rows draw noz weir spill) : ∀ (d k j : Nat),j + d = 41 → d * (noz.length + 3) < k →
 ca_fill.l1 k (noz.map (gvz rows)) j rows draw noz weir spill rows draw noz weir spill ((List.range j).map fun (q : Nat) => gat rows noz (q : Int)) = some (draw,weir,spill,grid rows noz)
 | 0,k,j,hj,hk => by
  obtain ⟨k,rfl⟩ := ksucc (by omega : 0 < k)
  obtain rfl : j = 41 := by omega
  simp only [ca_fill.l1]
  rw [if_neg (by omega)]
  rfl
 | d + 1,k,j,hj,hk => by
  rw [Nat.succ_mul] at hk
  obtain ⟨k,rfl⟩ := ksucc (by omega : 0 < k)
  simp only [ca_fill.l1]
  rw [if_pos (by omega)]
  refine fill_l2 h j (by omega) (by omega) _ (by simp;omega) _ (d * (noz.length + 3) + 1) (fun k' hk' => ?_) noz.length k 0 (by omega) (by omega) (by omega)
  have f := fill_l1 h d k' (j + 1) (by omega) (by omega)
  rw [List.range_succ,List.map_append] at f
  exact f
theorem fill_l0 (h : OkB rows draw noz weir spill) : ∀ (d k : Nat) (i : Int),0 ≤ i → i + d = noz.length → 41 * (noz.length + 3) + d + 5 < k →
 ca_fill.l0 k ((noz.take i.toNat).map (gvz rows)) noz noz.length i rows draw noz weir spill rows draw noz weir spill = some (draw,weir,spill,grid rows noz)
 | 0,k,i,h0,hi,hk => by
  obtain ⟨k,rfl⟩ := ksucc (by omega : 0 < k)
  simp only [ca_fill.l0]
  rw [if_neg (by omega),List.take_of_length_le (by omega)]
  exact fill_l1 h 41 k 0 (by omega) (by omega)
 | d + 1,k,i,h0,hi,hk => by
  obtain ⟨k,rfl⟩ := ksucc (by omega : 0 < k)
  have n2 := h.n2
  simp only [ca_fill.l0]
  rw [if_pos (by omega),if_pos h0,if_pos (by omega),Gives1_eq h (z_mem h0 (by omega)) (by omega),Option.bind_some,if_pos (by rw [List.length_map,List.length_take];omega),w64 (by omega)]
  have e := take_snoc z48 (gvz rows) noz h0 (by omega)
  have f := fill_l0 h d k (i + 1) (by omega) (by omega) (by omega)
  rw [e] at f
  exact f
theorem fill_eq (h : OkB rows draw noz weir spill) {k : Nat} (hk : 400 ≤ k) : ca_fill.f k rows draw noz weir spill = some (draw,weir,spill,grid rows noz) :=
 fill_l0 h noz.length k 0 (by omega) (by omega) (by have := h.n2;omega)
def over (weir spill h : Int) : Int := spill * mx 0 (h - weir)
def tot (rows : List S126) (noz : List S48) (weir spill h : Int) : Int := (gat rows noz h).sum + over weir spill h
theorem over_in (h : OkB rows draw noz weir spill) {x : Int} (h0 : 0 ≤ x) (h1 : x ≤ 40) : 0 ≤ over weir spill x ∧ over weir spill x ≤ 4000 := by
 have a := h.s0;have b := h.s1;have c := h.w0
 unfold over
 have m : 0 ≤ mx 0 (x - weir) ∧ mx 0 (x - weir) ≤ 40 := by unfold mx;split <;> omega
 exact ⟨Int.mul_nonneg a m.1,by have := Int.mul_le_mul b m.2 m.1 (by omega : (0 : Int) ≤ 100);omega⟩
theorem gat_in (h : OkB rows draw noz weir spill) (x : Int) : ∀ y ∈ gat rows noz x,0 ≤ y ∧ y ≤ 1000 := by
 intro y hy
 unfold gat at hy
 obtain ⟨z,hz,rfl⟩ := List.mem_map.1 hy
 exact pour_in h hz x
theorem gat_len (x : Int) : (gat rows noz x).length = noz.length := by simp [gat]
theorem sum_nn {l : List Int} (h : ∀ x ∈ l,0 ≤ x) : 0 ≤ l.sum := by
 induction l with
 | nil => simp
 | cons x l ih => rw [List.sum_cons];have := h x (by simp);have := ih (fun y hy => h y (by simp [hy]));omega
theorem gsum_in (h : OkB rows draw noz weir spill) (x : Int) : 0 ≤ (gat rows noz x).sum ∧ (gat rows noz x).sum ≤ 6000 := by
 have a := gat_in h x
 have b := sum_bd (l := gat rows noz x) (B := 1000) (by omega) (fun y hy => by have := a y hy;omega)
 rw [gat_len] at b
 have := h.n2
 exact ⟨sum_nn (fun y hy => (a y hy).1),by omega⟩
theorem tot_in (h : OkB rows draw noz weir spill) {x : Int} (h0 : 0 ≤ x) (h1 : x ≤ 40) : 0 ≤ tot rows noz weir spill x ∧ tot rows noz weir spill x ≤ 10000 := by
 have a := gsum_in h x
 have b := over_in h h0 h1
 unfold tot
 omega
theorem weir_eq (h : OkB rows draw noz weir spill) {x : Int} (h0 : 0 ≤ x) (h1 : x ≤ 40) : gf_weir.f rows draw noz weir spill (grid rows noz) x = some (over weir spill x) := by
 have a := over_in h h0 h1
 have c := h.w0;have c1 := h.w1
 unfold gf_weir.f
 rw [w64 (n := x - weir) (by omega),w64 (n := spill * _) (by unfold over at a;omega)]
 rfl
theorem out_eq (h : OkB rows draw noz weir spill) {x : Int} (h0 : 0 ≤ x) (h1 : x ≤ 40) : gf_out.f rows draw noz weir spill (grid rows noz) x = some (tot rows noz weir spill x) := by
 have a := gat_in h x
 have b := over_in h h0 h1
 have c := gsum_in h x
 unfold gf_out.f gf_nozzles.f
 rw [if_pos h0,if_pos (by rw [grid_len];omega),grid_at _ _ h0 h1,csum (by rw [gat_len];have := h.n2;omega) (fun y hy => by have := a y hy;omega) (by omega),weir_eq h h0 h1]
 simp only [Option.bind_some]
 rw [w64 (n := (gat rows noz x).sum) (by omega),w64 (by omega)]
 rfl
theorem mm_mono {a b : Int} (h : a ≤ b) : mx 0 (mn 5 a) ≤ mx 0 (mn 5 b) := by unfold mx mn;(repeat' split) <;> omega
theorem pour_mono (h : OkB rows draw noz weir spill) {z : S48} (hz : z ∈ noz) {a b : Int} (hab : a ≤ b) : pour rows a z ≤ pour rows b z := by
 have g := gvz_in h hz
 unfold pour
 exact Int.ediv_le_ediv (by omega) (Int.mul_le_mul_of_nonneg_left (mm_mono (by omega)) (by omega))
theorem sum_mono_map {f g : S48 → Int} : ∀ {l : List S48},(∀ z ∈ l,f z ≤ g z) → (l.map f).sum ≤ (l.map g).sum
 | [],_ => by simp
 | z :: l,h => by
  simp only [List.map_cons,List.sum_cons]
  have := h z (by simp)
  have := sum_mono_map (l := l) (fun y hy => h y (by simp [hy]))
  omega
theorem over_mono (h : OkB rows draw noz weir spill) {a b : Int} (hab : a ≤ b) : over weir spill a ≤ over weir spill b := by
 unfold over
 exact Int.mul_le_mul_of_nonneg_left (by unfold mx;(repeat' split) <;> omega) h.s0
theorem tot_mono (h : OkB rows draw noz weir spill) {a b : Int} (hab : a ≤ b) : tot rows noz weir spill a ≤ tot rows noz weir spill b := by
 have := over_mono h hab
 have := sum_mono_map (f := pour rows a) (g := pour rows b) (l := noz) (fun z hz => pour_mono h hz hab)
 unfold tot gat
 omega
theorem tot_zero (h : OkB rows draw noz weir spill) : tot rows noz weir spill 0 = 0 := by
 have e : gat rows noz 0 = noz.map (fun _ => 0) := by
  unfold gat
  refine List.map_congr_left fun z hz => ?_
  have a := h.nn z hz
  unfold pour
  rw [show mx 0 (mn 5 (0 - z.f1)) = 0 by unfold mx mn;(repeat' split) <;> omega]
  simp
 have s : ∀ l : List S48,(l.map (fun _ => (0 : Int))).sum = 0 := by
  intro l
  induction l with
  | nil => rfl
  | cons z l ih => simp only [List.map_cons,List.sum_cons,ih];rfl
 have o : over weir spill 0 = 0 := by
  have := h.w0
  unfold over
  rw [show mx 0 (0 - weir) = 0 by unfold mx;split <;> omega]
  simp
 unfold tot
 rw [e,s,o]
 rfl
def Lev (rows : List S126) (noz : List S48) (weir spill cups h : Int) : Prop := 0 ≤ h ∧ h ≤ 40 ∧ tot rows noz weir spill h ≤ cups ∧ (h < 40 → cups < tot rows noz weir spill (h + 1))
theorem Lev.uniq (h : OkB rows draw noz weir spill) {cups a b : Int} (ha : Lev rows noz weir spill cups a) (hb : Lev rows noz weir spill cups b) : a = b := by
 obtain ⟨a0,a1,a2,a3⟩ := ha
 obtain ⟨b0,b1,b2,b3⟩ := hb
 rcases Int.lt_trichotomy a b with l | l | l
 · have := a3 (by omega)
   have := tot_mono h (show a + 1 ≤ b by omega)
   omega
 · exact l
 · have := b3 (by omega)
   have := tot_mono h (show b + 1 ≤ a by omega)
   omega
theorem levelGo_eq (h : OkB rows draw noz weir spill) {cups : Int} : ∀ (n : Nat) (i : Int),0 ≤ i → i + n = 41 → (0 < i → tot rows noz weir spill (i - 1) ≤ cups) → 0 ≤ cups →
 ∃ r,levelGo rows draw noz weir spill (grid rows noz) cups n i (mx 0 (i - 1)) = some r ∧ Lev rows noz weir spill cups r
 | 0,i,h0,hi,hp,hc => by
  obtain rfl : i = 41 := by omega
  exact ⟨_,rfl,by unfold mx;split <;> omega,by unfold mx;split <;> omega,hp (by omega),fun hh => absurd hh (by unfold mx;split <;> omega)⟩
 | n + 1,i,h0,hi,hp,hc => by
  simp only [levelGo]
  rw [out_eq h h0 (by omega),Option.bind_some]
  by_cases g : tot rows noz weir spill i > cups
  case neg =>
   rw [if_neg g]
   obtain ⟨r,hr,hl⟩ := levelGo_eq h n (i + 1) (by omega) (by omega) (fun _ => by rw [show i + 1 - 1 = i by omega];omega) hc
   rw [show mx 0 (i + 1 - 1) = i by unfold mx;split <;> omega] at hr
   exact ⟨r,hr,hl⟩
  rw [if_pos g]
  have i0 : 0 < i := by
   rcases Int.lt_or_eq_of_le h0 with l | l
   · exact l
   · rw [← l,tot_zero h] at g;omega
  have e : mx 0 (i - 1) = i - 1 := by unfold mx;split <;> omega
  rw [e]
  exact ⟨_,rfl,by omega,by omega,hp i0,fun _ => by rw [show i - 1 + 1 = i by omega];exact g⟩
theorem level_eq (h : OkB rows draw noz weir spill) {cups : Int} (hc : 0 ≤ cups) : ∃ r,gf_level.f rows draw noz weir spill (grid rows noz) cups = some r ∧ Lev rows noz weir spill cups r := by
 unfold gf_level.f
 rw [grid_len]
 have := levelGo_eq h (cups := cups) 41 0 (by omega) (by omega) (fun h => by omega) hc
 simpa [mx] using this
end
set_option linter.unusedSimpArgs false
section
attribute [local go_sem] max2_int min2_int max_two min_two
set_option linter.unusedSimpArgs false
end
set_option linter.unusedSimpArgs false
set_option linter.unusedSimpArgs false
section
attribute [local go_sem] max2_int min2_int max_two min_two
set_option linter.unusedSimpArgs false
end
set_option linter.unusedSimpArgs false
section
attribute [local go_sem] max2_int min2_int max_two min_two
def ca_Shares.j0 : Nat → Int → Bool → List (S126) → Int → List (S48) → Int → Int → Option (List Int × Int × Int)
 | 0,_,_,_,_,_,_,_ => none
 | k + 1,x1,x16,x193000,x193001,x193002,x193003,x193004 => if x16 = true then (some (([] : List Int),0,2)) else ((ca_fill.f k x193000 x193001 x193002 x193003 x193004).bind fun bt207 => ((gf_shares.f k x193000 bt207.1 x193002 bt207.2.1 bt207.2.2.1 bt207.2.2.2 x1).bind fun bt213 => (some (bt213.1,bt213.2,0))))
def ca_Shares.f (k : Nat) (l0_0 : List (S126)) (a0_1 : Int) (l0_2 : List (S48)) (a0_3 : Int) (a0_4 : Int) (a1 : Int) : Option (List Int × Int × Int) := (ca_isBasin.f l0_0 a0_1 l0_2 a0_3 a0_4).bind fun t193 => (if t193 = true then ((ca_isFlow.f a1).bind fun t194 => (ca_Shares.j0 k a1 (!t194) l0_0 a0_1 l0_2 a0_3 a0_4)) else (ca_Shares.j0 k a1 true l0_0 a0_1 l0_2 a0_3 a0_4))
theorem ca_Shares.calls (k : Nat) (A0_0 : Option Addr) (c0_0 : Nat) (l0_0 : List (S126)) (a0_1 : Int) (A0_2 : Option Addr) (c0_2 : Nat) (l0_2 : List (S48)) (a0_3 : Int) (a0_4 : Int) (a1 : Int) (r1 : List Int) (r2 : Int) (r3 : Int) (w : World) (hr0_0 : Kd.C k126 w A0_0 l0_0.length l0_0) (hc0_0 : l0_0.length ≤ c0_0) (hr0_2 : Kd.C k48 w A0_2 l0_2.length l0_2) (hc0_2 : l0_2.length ≤ c0_2) (h : ca_Shares.f k l0_0 a0_1 l0_2 a0_3 a0_4 a1 = some (r1,r2,r3)) :
 Calls Tryz.prog 23 #[.agg #[.slice A0_0 l0_0.length c0_0,.int .i64 a0_1,.slice A0_2 l0_2.length c0_2,.int .i64 a0_3,.int .i64 a0_4],.int .i64 a1] w fun e w' => ∃ v0_ : Value,e = .returned (.tuple #[v0_,.int .i64 r2,.int .i64 r3]) ∧ Kd.R (Kd.int .i64) 3 w' w.heap.size (fun _ => True) v0_ r1 ∧ Below w.heap.size w w' := by
 have hu27 := Tryz.underlying27
 have HR0_0 := am hr0_0
 have HC0_0 := am hc0_0
 clear hr0_0 hc0_0
 have HR0_2 := am hr0_2
 have HC0_2 := am hc0_2
 clear hr0_2 hc0_2
 have HB := am (Below.refl w.heap.size w)
 have H : ((ca_isBasin.f l0_0 a0_1 l0_2 a0_3 a0_4).bind fun t193 => (if t193 = true then ((ca_isFlow.f a1).bind fun t194 => (ca_Shares.j0 k a1 (!t194) l0_0 a0_1 l0_2 a0_3 a0_4)) else (ca_Shares.j0 k a1 true l0_0 a0_1 l0_2 a0_3 a0_4))) = some (r1,r2,r3) := h
 clear h
 have HC3 := am H
 clear H
 go_enter Tryz.func23,Tryz.ntmps23
 go_upto_region 1 with (first | ((refine gate_dst (N := 2) rfl ?_);refine box_event rfl (N := 2) rfl (cs := #[.slice A0_0 l0_0.length c0_0,.int .i64 a0_1,.slice A0_2 l0_2.length c0_2,.int .i64 a0_3,.int .i64 a0_4]) (t := 27) ?hr ?_;(case hr => go_simp;try rfl);intro gb192 hg w4 hbox hb;have BK192 := am (hbox);have GW192 := am (ge_new (HB.out) hg);have GE192 := am (ge_new (HB.out) hg);replace HB := am (below_step (HB.out) hb);clear hb hbox hg))
 (try simp only [Act.put,List.setIfInBounds_toArray,List.set_cons_zero,List.set_cons_succ])
 go_cut [16] (fun v16 wc => ∃ (kq : Nat) (x16_2 : Bool),v16 = .bool x16_2 ∧ Aside0 (ca_Shares.j0 kq a1 x16_2 l0_0 a0_1 l0_2 a0_3 a0_4 = some (r1,r2,r3)) ∧ Aside0 (kq ≤ k) ∧ Aside0 (wc.heap[gb192]? = some (.cells #[(.slice A0_0 l0_0.length c0_0),.int .i64 a0_1,(.slice A0_2 l0_2.length c0_2),.int .i64 a0_3,.int .i64 a0_4] 27 (0,0))) ∧ Aside0 (Below w.heap.size w wc))
 case first =>
  have H := HC3.out
  clear HC3
  replace H := obm H
  obtain ⟨t193,A50,H⟩ := H
  replace H : (if t193 = true then ((ca_isFlow.f a1).bind fun t194 => (ca_Shares.j0 k a1 (!t194) l0_0 a0_1 l0_2 a0_3 a0_4)) else (ca_Shares.j0 k a1 true l0_0 a0_1 l0_2 a0_3 a0_4)) = some (r1,r2,r3) := H
  have A5 := am A50
  clear A50
  by_cases c6 : t193 = true
  case neg =>
   replace c6 := Bool.eq_false_iff.mpr c6
   subst c6
   replace H : (ca_Shares.j0 k a1 true l0_0 a0_1 l0_2 a0_3 a0_4) = some (r1,r2,r3) := by rw [if_neg (show ¬ (false = true) by decide)] at H;exact H
   replace H' := am H
   obtain ⟨hcz10_0,hcz10_1,hcz10_2,hcz10_3,hcz10_4⟩ := cO5 BK192.out
   go_wp2_with (first | ((with_reducible refine gate_callee (f := 64) rfl ?_);refine goesL_ (some 10) rfl rfl Tryz.func64 (by kernel_rfl) rfl #[.agg #[.slice A0_0 l0_0.length c0_0,.int .i64 a0_1,.slice A0_2 l0_2.length c0_2,.int .i64 a0_3,.int .i64 a0_4]] rfl (by (try simp only [List.map_toArray,List.map_cons,List.map_nil]);first | done | rfl | (simp only [List.length_drop,List.length_take];rfl)) ?_;(refine (ca_isBasin.calls _ _ l0_0 a0_1 _ _ l0_2 a0_3 a0_4 false _ ?side1 ?side2 ?side3 ?side4 A5.out).mono ?_);(case side1 => exact kC HR0_0.out HB.out);(case side2 => exact HC0_0.out);(case side3 => exact kC HR0_2.out HB.out);(case side4 => exact HC0_2.out);rintro e w11 ⟨rfl,hb⟩;refine ⟨_,rfl,?_⟩;replace BK192 := (kmv hb BK192);replace HB := am (below_step (HB.out) hb);(try clear hb);(try clear hb2);(try clear hk);(try clear hi)))
   go_meet
   case rel => exact ⟨_,(true),(by first | rfl | (simp;done) | (simp [*];done)),H',⟨by first | omega | exact Nat.le_refl _⟩,⟨BK192.out⟩,⟨HB.out⟩⟩
  subst c6
  replace H : ((ca_isFlow.f a1).bind fun t194 => (ca_Shares.j0 k a1 (!t194) l0_0 a0_1 l0_2 a0_3 a0_4)) = some (r1,r2,r3) := by rw [if_pos rfl] at H;exact H
  replace H := obm H
  obtain ⟨t194,A70,H⟩ := H
  replace H : (ca_Shares.j0 k a1 (!t194) l0_0 a0_1 l0_2 a0_3 a0_4) = some (r1,r2,r3) := H
  have A7 := am A70
  clear A70
  replace H' := am H
  obtain ⟨hcz8_0,hcz8_1,hcz8_2,hcz8_3,hcz8_4⟩ := cO5 BK192.out
  go_wp2_with (first | ((with_reducible refine gate_callee (f := 64) rfl ?_);refine goesL_ (some 10) rfl rfl Tryz.func64 (by kernel_rfl) rfl #[.agg #[.slice A0_0 l0_0.length c0_0,.int .i64 a0_1,.slice A0_2 l0_2.length c0_2,.int .i64 a0_3,.int .i64 a0_4]] rfl (by (try simp only [List.map_toArray,List.map_cons,List.map_nil]);first | done | rfl | (simp only [List.length_drop,List.length_take];rfl)) ?_;(refine (ca_isBasin.calls _ _ l0_0 a0_1 _ _ l0_2 a0_3 a0_4 true _ ?side1 ?side2 ?side3 ?side4 A5.out).mono ?_);(case side1 => exact kC HR0_0.out HB.out);(case side2 => exact HC0_0.out);(case side3 => exact kC HR0_2.out HB.out);(case side4 => exact HC0_2.out);rintro e w9 ⟨rfl,hb⟩;refine ⟨_,rfl,?_⟩;replace BK192 := (kmv hb BK192);replace HB := am (below_step (HB.out) hb);(try clear hb);(try clear hb2);(try clear hk);(try clear hi)) | (go_at_call 67;(refine (ca_isFlow.calls a1 t194 _ A7.out).mono ?_);rintro e w' ⟨rfl,⟨nd,rfl⟩⟩))
  go_meet
  case rel => exact ⟨_,(!t194),(by first | rfl | (simp;done) | (simp [*];done)),H',⟨by first | omega | exact Nat.le_refl _⟩,⟨BK192.out⟩,⟨pw_below_drewN HB.out _⟩⟩
 case rest =>
  clear HC3
  obtain ⟨kq,x16_2,rfl,HA,HJ2,BK192,HB⟩ := hcut
  cases kq with
  | zero => exact absurd HA.out (by simp [ca_Shares.j0])
  | succ kj2 =>
   have H := HA.out
   clear HA
   simp only [ca_Shares.j0] at H
   by_cases c12 : x16_2 = true
   · subst c12
     replace H : (some (([] : List Int),0,2)) = some (r1,r2,r3) := by rw [if_pos rfl] at H;exact H
     simp only [Option.some.injEq,Prod.mk.injEq] at H
     obtain ⟨rfl,rfl,rfl⟩ := H
     go_wp2
     go_ret3
     exact ⟨_,by first | rfl | (simp [*] <;> rfl),by first | exact Kd.R_nil _ _ _ _ _ | exact Kd.N_nil _ _ _ _ _ | exact Kd.V_nil _ _ _ _ _ | exact Kd.Q_nil _ _ _ _ _ | exact Kd.S_nil _ _ _ _ _,HB.out⟩
   · replace c12 := Bool.eq_false_iff.mpr c12
     subst c12
     replace H : ((ca_fill.f kj2 l0_0 a0_1 l0_2 a0_3 a0_4).bind fun bt207 => ((gf_shares.f kj2 l0_0 bt207.1 l0_2 bt207.2.1 bt207.2.2.1 bt207.2.2.2 a1).bind fun bt213 => (some (bt213.1,bt213.2,0)))) = some (r1,r2,r3) := by rw [if_neg (show ¬ (false = true) by decide)] at H;exact H
     replace H := obm H
     obtain ⟨⟨t207,t208,t209,t210⟩,A130,H⟩ := H
     replace H : ((gf_shares.f kj2 l0_0 t207 l0_2 t208 t209 t210 a1).bind fun bt213 => (some (bt213.1,bt213.2,0))) = some (r1,r2,r3) := H
     have A13 := am A130
     clear A130
     replace H := obm H
     obtain ⟨⟨t213,t216⟩,A140,H⟩ := H
     replace H : (some (t213,t216,0)) = some (r1,r2,r3) := H
     have A14 := am A140
     clear A140
     simp only [Option.some.injEq,Prod.mk.injEq] at H
     obtain ⟨rfl,rfl,rfl⟩ := H
     obtain ⟨hcz15_0,hcz15_1,hcz15_2,hcz15_3,hcz15_4⟩ := cO5 BK192.out
     go_wp2_with (first | ((with_reducible refine gate_callee (f := 69) rfl ?_);refine goesL_ (some 19) rfl rfl Tryz.func69 (by kernel_rfl) rfl #[.agg #[.slice A0_0 l0_0.length c0_0,.int .i64 a0_1,.slice A0_2 l0_2.length c0_2,.int .i64 a0_3,.int .i64 a0_4]] rfl (by (try simp only [List.map_toArray,List.map_cons,List.map_nil]);first | done | rfl | (simp only [List.length_drop,List.length_take];rfl)) ?_;(refine (ca_fill.calls kj2 _ _ l0_0 a0_1 _ _ l0_2 a0_3 a0_4 t207 t208 t209 t210 _ ?side1 ?side2 ?side3 ?side4 A13.out).mono ?_);(case side1 => exact kC HR0_0.out HB.out);(case side2 => exact HC0_0.out);(case side3 => exact kC HR0_2.out HB.out);(case side4 => exact HC0_2.out);rintro e w16 ⟨v211,rfl,ho0,hb⟩;refine ⟨_,rfl,?_⟩;have HO212 := am (Kd.S_lower ho0 (below_size (HB.out)));replace BK192 := (kmv hb BK192);replace HB := am (below_step (HB.out) hb);(try clear hb);(try clear hb2);(try clear hk);(try clear hi);(try clear ho0);obtain ⟨Ao17,co17,eo17⟩ := Kd.S_slice HO212.out;subst eo17) | ((with_reducible refine gate_callee (f := 71) rfl ?_);refine goesL_ (some 21) rfl rfl Tryz.func71 (by kernel_rfl) rfl #[.agg #[.slice A0_0 l0_0.length c0_0,.int .i64 t207,.slice A0_2 l0_2.length c0_2,.int .i64 t208,.int .i64 t209,.slice Ao17 t210.length co17],.int .i64 a1] rfl (by (try simp only [List.map_toArray,List.map_cons,List.map_nil]);first | done | rfl | (simp only [List.length_drop,List.length_take];rfl)) ?_;(refine (gf_shares.calls kj2 _ _ l0_0 t207 _ _ l0_2 t208 t209 _ _ t210 a1 t213 t216 _ ?side1 ?side2 ?side3 ?side4 ?side5 ?side6 A14.out).mono ?_);(case side1 => exact kC HR0_0.out HB.out);(case side2 => exact HC0_0.out);(case side3 => exact kC HR0_2.out HB.out);(case side4 => exact HC0_2.out);(case side5 => repeat (first | exact (Kd.S_reads' HO212.out).2.2 | (with_reducible refine Kd.C_alloc ?_ _) | (with_reducible refine Kd.C_drewN ?_ _) | (with_reducible refine Kd.C_drew ?_)));(case side6 => exact (Kd.S_reads' HO212.out).2.1);rintro e w18 ⟨v214,rfl,ho0,hb⟩;refine ⟨_,rfl,?_⟩;have HO215 := am (Kd.R_lower ho0 (below_size (HB.out)));replace HO212 := am (Kd.S_elder' HO212.out (Kd.R_base ho0) hb);replace BK192 := (kmv hb BK192);replace HB := am (below_step (HB.out) hb);(try clear hb);(try clear hb2);(try clear hk);(try clear hi);(try clear ho0)))
     go_ret3
     exact ⟨_,by first | rfl | (simp [*] <;> rfl),by (with_reducible repeat (first | apply Kd.R_alloc | apply Kd.R_drewN | apply Kd.R_drew));exact HO215.out,HB.out⟩
end
end Go.Proofs.YtnnmnhpeblhiiaaGreatDoor.C
